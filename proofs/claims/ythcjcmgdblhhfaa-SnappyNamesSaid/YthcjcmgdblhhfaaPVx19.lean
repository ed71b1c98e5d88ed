/- The machine side of these statements: what each Go function computes as a plain function, and that its call computes just that. Written by a program of mine (wip/drive.py). No conditions. -/
import Derived.Test.YthcjcmgdblhhfaaPVx0
import Derived.Test.YthcjcmgdblhhfaaPVx10
import Derived.Test.YthcjcmgdblhhfaaPVx11
import Derived.Test.YthcjcmgdblhhfaaPVx12
import Derived.Test.YthcjcmgdblhhfaaPVx13
import Derived.Test.YthcjcmgdblhhfaaPVx16
import Derived.Test.YthcjcmgdblhhfaaPVx18
namespace Go.Proofs.Ythcjcmgdblhhfaa.PV
open Go.RowKit Go.Proofs.YthcjcmgdblhhfaaW.PrintWords Go.Proofs.YthcjcmgdblhhfaaW.PrintLast Go.Proofs.YthcjcmgdblhhfaaW.PrintMore
attribute [local go_sem] max2_int min2_int max_two min_two max_three min_three max_four min_four   -- for this text's walks alone
set_option linter.unusedVariables false
set_option linter.unusedSimpArgs false

/-! ### batonlaw03_SnappyNames: function 3 -/
mutual
def batonlaw03_SnappyNames.l0 : Nat → List (S24) → Int → Int → Option (Bool)
 | 0,_,_,_=>none
 | k + 1,x55,x56,x57=>if x57 < x56 then (if 0 ≤ x57 then (if x57 < (x55.length : Int) then ((snappy_Decode.f k ((rd_T24 x55 x57).f0) ((rd_T24 x55 x57).f1)).bind fun bt292=>(if bt292.1.toList = ((rd_T24 x55 x57).f2).toList then (if bt292.2 = ((rd_T24 x55 x57).f3) then (batonlaw03_SnappyNames.l0 k x55 x56 (wrap64 (x57 + 1))) else (some false)) else (some false))) else (none)) else (none)) else (if 65537 ≤ 281474976710656 then ((some (List.replicate 65537 0 : List Int)).bind fun y294=>((snappy_Encode.f k (strOfNums y294)).bind fun bt297=>((snappy_Pack.f k (strOfNums y294)).bind fun bt299=>((snappy_Write.f k (([(⟨false,strOfNums y294,0,0⟩ : S35)] : List (S35)))).bind fun bt306=>(if 1 ≤ ((strOfNums y294).size : Int) then ((snappy_Write.f k (([(⟨false,(strOfNums y294).extract 1 (strOfNums y294).size,0,0⟩ : S35),(⟨false,(⟨#[97]⟩ : ByteArray),0,0⟩ : S35)] : List (S35)))).bind fun bt311=>((snappy_Write.f k (([(⟨false,(strOfNums y294).extract 1 (strOfNums y294).size,0,0⟩ : S35)] : List (S35)))).bind fun bt316=>((snappy_Decode.f k bt316.1 65536).bind fun bt318=>(if bt297.2 = 40 then (if bt299.2 = 40 then (if bt306.2 = 4 then (if bt311.2 = 40 then (if bt316.2 = 0 then (if bt318.1.toList = ((strOfNums y294).extract 1 (strOfNums y294).size).toList then (if bt318.2 = 0 then (batonlaw03_SnappyNames.j1 k ((bt316.1.size : Int) != 65542)) else (batonlaw03_SnappyNames.j1 k true)) else (batonlaw03_SnappyNames.j1 k true)) else (batonlaw03_SnappyNames.j1 k true)) else (batonlaw03_SnappyNames.j1 k true)) else (batonlaw03_SnappyNames.j1 k true)) else (batonlaw03_SnappyNames.j1 k true)) else (batonlaw03_SnappyNames.j1 k true))))) else (none)))))) else (none))
def batonlaw03_SnappyNames.j1 : Nat → Bool → Option (Bool)
 | 0,_=>none
 | k + 1,x153=>if x153 = true then (some false) else ((some (([(⟨false,(⟨#[]⟩ : ByteArray),0,0⟩ : S35),(⟨false,(⟨#[97]⟩ : ByteArray),1,0⟩ : S35),(⟨false,(⟨#[97]⟩ : ByteArray),0,1⟩ : S35),(⟨true,(⟨#[]⟩ : ByteArray),1,0⟩ : S35),(⟨true,(⟨#[]⟩ : ByteArray),0,1⟩ : S35),(⟨true,(⟨#[]⟩ : ByteArray),1,65⟩ : S35),(⟨true,(⟨#[]⟩ : ByteArray),4294967296,1⟩ : S35),(⟨true,(⟨#[97]⟩ : ByteArray),1,1⟩ : S35),(⟨true,(⟨#[]⟩ : ByteArray),6,1⟩ : S35),(⟨true,(⟨#[]⟩ : ByteArray),(-1),4⟩ : S35)] : List (S35)) : List (S35))).bind fun y320=>(batonlaw03_SnappyNames.l1 k y320 (y320.length : Int) 0))
def batonlaw03_SnappyNames.l1 : Nat → List (S35) → Int → Int → Option (Bool)
 | 0,_,_,_=>none
 | k + 1,x164,x165,x166=>if x166 < x165 then (if 0 ≤ x166 then (if x166 < (x164.length : Int) then ((snappy_Expand.f k (([(⟨false,(⟨#[97,98,99,100,101]⟩ : ByteArray),0,0⟩ : S35),(⟨(rd_T35 x164 x166).f0,(rd_T35 x164 x166).f1,(rd_T35 x164 x166).f2,(rd_T35 x164 x166).f3⟩ : S35)] : List (S35))) 99).bind fun bt328=>(if bt328.2 = 4 then (batonlaw03_SnappyNames.l1 k x164 x165 (wrap64 (x166 + 1))) else (some false))) else (none)) else (none)) else ((snappy_Expand.f k (([(⟨false,(⟨#[97,98,99,100,101]⟩ : ByteArray),0,0⟩ : S35)] : List (S35))) 4).bind fun bt333=>((snappy_Expand.f k ([] : List (S35)) (-1)).bind fun bt335=>((snappy_Match.f k (⟨#[97,98,99]⟩ : ByteArray) 3).bind fun bt337=>(if bt333.2 = 40 then (if bt335.2 = 0 then (if bt337.1 = 0 then (some (bt337.2 == 0)) else (some false)) else (some false)) else (some false)))))
end
def batonlaw03_SnappyNames.f (k : Nat)  : Option (Bool) := (batonlaw03_awake.f k).bind fun t286 => (if t286 = true then ((some (([(⟨(⟨#[]⟩ : ByteArray), 9, (⟨#[]⟩ : ByteArray), 8⟩ : S24), (⟨(⟨#[0]⟩ : ByteArray), 0, (⟨#[]⟩ : ByteArray), 0⟩ : S24), (⟨(⟨#[0]⟩ : ByteArray), (-1), (⟨#[]⟩ : ByteArray), 40⟩ : S24), (⟨(⟨#[1]⟩ : ByteArray), 9, (⟨#[]⟩ : ByteArray), 4⟩ : S24), (⟨(⟨#[10]⟩ : ByteArray), 9, (⟨#[]⟩ : ByteArray), 40⟩ : S24), (⟨(⟨#[128, 128, 128, 128, 16]⟩ : ByteArray), 1099511627776, (⟨#[]⟩ : ByteArray), 4⟩ : S24), (⟨(⟨#[3, 8, 97, 98]⟩ : ByteArray), 9, (⟨#[]⟩ : ByteArray), 8⟩ : S24), (⟨(⟨#[2, 8, 97, 98, 99]⟩ : ByteArray), 9, (⟨#[]⟩ : ByteArray), 4⟩ : S24), (⟨(⟨#[4, 8, 97, 98, 99]⟩ : ByteArray), 9, (⟨#[]⟩ : ByteArray), 4⟩ : S24), (⟨(⟨#[5, 1, 1]⟩ : ByteArray), 9, (⟨#[]⟩ : ByteArray), 4⟩ : S24), (⟨(⟨#[5, 1]⟩ : ByteArray), 9, (⟨#[]⟩ : ByteArray), 8⟩ : S24), (⟨(⟨#[5, 0, 97, 1, 0]⟩ : ByteArray), 9, (⟨#[]⟩ : ByteArray), 4⟩ : S24), (⟨(⟨#[5, 0, 97, 1, 2]⟩ : ByteArray), 9, (⟨#[]⟩ : ByteArray), 4⟩ : S24), (⟨(⟨#[5, 0, 97, 1, 1]⟩ : ByteArray), 9, (⟨#[97, 97, 97, 97, 97]⟩ : ByteArray), 0⟩ : S24), (⟨(⟨#[2, 0, 97, 2, 1, 0]⟩ : ByteArray), 9, (⟨#[97, 97]⟩ : ByteArray), 0⟩ : S24), (⟨(⟨#[2, 0, 97, 3, 1, 0, 0, 0]⟩ : ByteArray), 9, (⟨#[97, 97]⟩ : ByteArray), 0⟩ : S24), (⟨(⟨#[2, 0, 97, 3, 1, 0, 0]⟩ : ByteArray), 9, (⟨#[]⟩ : ByteArray), 8⟩ : S24), (⟨(⟨#[2, 0, 97, 3, 1, 0, 0, 1]⟩ : ByteArray), 9, (⟨#[]⟩ : ByteArray), 4⟩ : S24), (⟨(⟨#[2, 240, 1, 97, 98]⟩ : ByteArray), 9, (⟨#[97, 98]⟩ : ByteArray), 0⟩ : S24), (⟨(⟨#[2, 244, 1, 0, 97, 98]⟩ : ByteArray), 9, (⟨#[97, 98]⟩ : ByteArray), 0⟩ : S24), (⟨(⟨#[2, 248, 1, 0, 0, 97, 98]⟩ : ByteArray), 9, (⟨#[97, 98]⟩ : ByteArray), 0⟩ : S24), (⟨(⟨#[2, 252, 1, 0, 0, 0, 97, 98]⟩ : ByteArray), 9, (⟨#[97, 98]⟩ : ByteArray), 0⟩ : S24), (⟨(⟨#[2, 252, 1, 0, 0, 1, 97, 98]⟩ : ByteArray), 9, (⟨#[]⟩ : ByteArray), 8⟩ : S24), (⟨(⟨#[2, 252, 255, 255, 255, 255, 97, 98]⟩ : ByteArray), 9, (⟨#[]⟩ : ByteArray), 8⟩ : S24), (⟨(⟨#[130, 0, 4, 97, 98]⟩ : ByteArray), 9, (⟨#[97, 98]⟩ : ByteArray), 0⟩ : S24)] : List (S24)) : List (S24))).bind fun y287 => (batonlaw03_SnappyNames.l0 k y287 (y287.length : Int) 0)) else (some false))
theorem batonlaw03_SnappyNames.mono_l : ∀ k, (∀ y0 y1 y2, LeO (batonlaw03_SnappyNames.l0 k y0 y1 y2) (batonlaw03_SnappyNames.l0 (k + 1) y0 y1 y2)) ∧ (∀ y0, LeO (batonlaw03_SnappyNames.j1 k y0) (batonlaw03_SnappyNames.j1 (k + 1) y0)) ∧ (∀ y0 y1 y2, LeO (batonlaw03_SnappyNames.l1 k y0 y1 y2) (batonlaw03_SnappyNames.l1 (k + 1) y0 y1 y2))
 | 0=>⟨fun _ _ _ r h=>by simp [batonlaw03_SnappyNames.l0] at h,fun _ r h=>by simp [batonlaw03_SnappyNames.j1] at h,fun _ _ _ r h=>by simp [batonlaw03_SnappyNames.l1] at h⟩
 | k + 1=>by
  obtain ⟨ih0,ih1,ih2⟩ := batonlaw03_SnappyNames.mono_l k
  refine ⟨?_,?_,?_⟩
  ·intro y0 y1 y2
   unfold batonlaw03_SnappyNames.l0
   repeat' first
   | (with_reducible exact ih0 _ _ _)
   | (with_reducible exact ih1 _)
   | (with_reducible exact ih2 _ _ _)
   | (with_reducible exact batonlaw03_awake.mono _)
   | (with_reducible exact snappy_Decode.mono _ _ _)
   | (with_reducible exact snappy_Encode.mono _ _)
   | (with_reducible exact snappy_Expand.mono _ _ _)
   | (with_reducible exact snappy_Match.mono _ _ _)
   | (with_reducible exact snappy_Pack.mono _ _)
   | (with_reducible exact snappy_Write.mono _ _)
   | (with_reducible exact LeO.refl _)
   | (with_reducible exact LeO.none _)
   | (with_reducible refine LeO.ite ?_ ?_)
   | (with_reducible refine LeO.bind ?_ (fun _=>?_))
   | exact ih0 _ _ _
   | exact ih1 _
   | exact ih2 _ _ _
   | exact batonlaw03_awake.mono _
   | exact snappy_Decode.mono _ _ _
   | exact snappy_Encode.mono _ _
   | exact snappy_Expand.mono _ _ _
   | exact snappy_Match.mono _ _ _
   | exact snappy_Pack.mono _ _
   | exact snappy_Write.mono _ _
   | exact LeO.none _
   | refine LeO.ite ?_ ?_
   | refine LeO.bind ?_ (fun _=>?_)
  ·intro y0
   unfold batonlaw03_SnappyNames.j1
   repeat' first
   | (with_reducible exact ih0 _ _ _)
   | (with_reducible exact ih1 _)
   | (with_reducible exact ih2 _ _ _)
   | (with_reducible exact batonlaw03_awake.mono _)
   | (with_reducible exact snappy_Decode.mono _ _ _)
   | (with_reducible exact snappy_Encode.mono _ _)
   | (with_reducible exact snappy_Expand.mono _ _ _)
   | (with_reducible exact snappy_Match.mono _ _ _)
   | (with_reducible exact snappy_Pack.mono _ _)
   | (with_reducible exact snappy_Write.mono _ _)
   | (with_reducible exact LeO.refl _)
   | (with_reducible exact LeO.none _)
   | (with_reducible refine LeO.ite ?_ ?_)
   | (with_reducible refine LeO.bind ?_ (fun _=>?_))
   | exact ih0 _ _ _
   | exact ih1 _
   | exact ih2 _ _ _
   | exact batonlaw03_awake.mono _
   | exact snappy_Decode.mono _ _ _
   | exact snappy_Encode.mono _ _
   | exact snappy_Expand.mono _ _ _
   | exact snappy_Match.mono _ _ _
   | exact snappy_Pack.mono _ _
   | exact snappy_Write.mono _ _
   | exact LeO.none _
   | refine LeO.ite ?_ ?_
   | refine LeO.bind ?_ (fun _=>?_)
  ·intro y0 y1 y2
   unfold batonlaw03_SnappyNames.l1
   repeat' first
   | (with_reducible exact ih0 _ _ _)
   | (with_reducible exact ih1 _)
   | (with_reducible exact ih2 _ _ _)
   | (with_reducible exact batonlaw03_awake.mono _)
   | (with_reducible exact snappy_Decode.mono _ _ _)
   | (with_reducible exact snappy_Encode.mono _ _)
   | (with_reducible exact snappy_Expand.mono _ _ _)
   | (with_reducible exact snappy_Match.mono _ _ _)
   | (with_reducible exact snappy_Pack.mono _ _)
   | (with_reducible exact snappy_Write.mono _ _)
   | (with_reducible exact LeO.refl _)
   | (with_reducible exact LeO.none _)
   | (with_reducible refine LeO.ite ?_ ?_)
   | (with_reducible refine LeO.bind ?_ (fun _=>?_))
   | exact ih0 _ _ _
   | exact ih1 _
   | exact ih2 _ _ _
   | exact batonlaw03_awake.mono _
   | exact snappy_Decode.mono _ _ _
   | exact snappy_Encode.mono _ _
   | exact snappy_Expand.mono _ _ _
   | exact snappy_Match.mono _ _ _
   | exact snappy_Pack.mono _ _
   | exact snappy_Write.mono _ _
   | exact LeO.none _
   | refine LeO.ite ?_ ?_
   | refine LeO.bind ?_ (fun _=>?_)
theorem batonlaw03_SnappyNames.mono : ∀ k, LeO (batonlaw03_SnappyNames.f k ) (batonlaw03_SnappyNames.f (k + 1) ) := by
 intro  k
 obtain ⟨ih0,ih1,ih2⟩ := batonlaw03_SnappyNames.mono_l k
 unfold batonlaw03_SnappyNames.f
 repeat' first
   | (with_reducible exact ih0 _ _ _)
   | (with_reducible exact ih1 _)
   | (with_reducible exact ih2 _ _ _)
   | (with_reducible exact batonlaw03_awake.mono _)
   | (with_reducible exact snappy_Decode.mono _ _ _)
   | (with_reducible exact snappy_Encode.mono _ _)
   | (with_reducible exact snappy_Expand.mono _ _ _)
   | (with_reducible exact snappy_Match.mono _ _ _)
   | (with_reducible exact snappy_Pack.mono _ _)
   | (with_reducible exact snappy_Write.mono _ _)
   | (with_reducible exact LeO.refl _)
   | (with_reducible exact LeO.none _)
   | (with_reducible refine LeO.ite ?_ ?_)
   | (with_reducible refine LeO.bind ?_ (fun _=>?_))
   | exact ih0 _ _ _
   | exact ih1 _
   | exact ih2 _ _ _
   | exact batonlaw03_awake.mono _
   | exact snappy_Decode.mono _ _ _
   | exact snappy_Encode.mono _ _
   | exact snappy_Expand.mono _ _ _
   | exact snappy_Match.mono _ _ _
   | exact snappy_Pack.mono _ _
   | exact snappy_Write.mono _ _
   | exact LeO.none _
   | refine LeO.ite ?_ ?_
   | refine LeO.bind ?_ (fun _=>?_)
set_option maxHeartbeats 8000000 in
set_option maxRecDepth 100000 in
theorem batonlaw03_SnappyNames.calls (k : Nat)  (r : Bool) (w : World) (h : batonlaw03_SnappyNames.f k  = some r) :
  Calls Try.prog 3 #[] w fun e w'=>e = .returned (.bool r) ∧ Below w.heap.size w w' := by
 have hu24 := Try.underlying24
 have hu35 := Try.underlying35
 have HB := Aside0.mk (Below.refl w.heap.size w)
 have H : ((batonlaw03_awake.f k).bind fun t286=>(if t286 = true then ((some (([(⟨(⟨#[]⟩ : ByteArray),9,(⟨#[]⟩ : ByteArray),8⟩ : S24),(⟨(⟨#[0]⟩ : ByteArray),0,(⟨#[]⟩ : ByteArray),0⟩ : S24),(⟨(⟨#[0]⟩ : ByteArray),(-1),(⟨#[]⟩ : ByteArray),40⟩ : S24),(⟨(⟨#[1]⟩ : ByteArray),9,(⟨#[]⟩ : ByteArray),4⟩ : S24),(⟨(⟨#[10]⟩ : ByteArray),9,(⟨#[]⟩ : ByteArray),40⟩ : S24),(⟨(⟨#[128,128,128,128,16]⟩ : ByteArray),1099511627776,(⟨#[]⟩ : ByteArray),4⟩ : S24),(⟨(⟨#[3,8,97,98]⟩ : ByteArray),9,(⟨#[]⟩ : ByteArray),8⟩ : S24),(⟨(⟨#[2,8,97,98,99]⟩ : ByteArray),9,(⟨#[]⟩ : ByteArray),4⟩ : S24),(⟨(⟨#[4,8,97,98,99]⟩ : ByteArray),9,(⟨#[]⟩ : ByteArray),4⟩ : S24),(⟨(⟨#[5,1,1]⟩ : ByteArray),9,(⟨#[]⟩ : ByteArray),4⟩ : S24),(⟨(⟨#[5,1]⟩ : ByteArray),9,(⟨#[]⟩ : ByteArray),8⟩ : S24),(⟨(⟨#[5,0,97,1,0]⟩ : ByteArray),9,(⟨#[]⟩ : ByteArray),4⟩ : S24),(⟨(⟨#[5,0,97,1,2]⟩ : ByteArray),9,(⟨#[]⟩ : ByteArray),4⟩ : S24),(⟨(⟨#[5,0,97,1,1]⟩ : ByteArray),9,(⟨#[97,97,97,97,97]⟩ : ByteArray),0⟩ : S24),(⟨(⟨#[2,0,97,2,1,0]⟩ : ByteArray),9,(⟨#[97,97]⟩ : ByteArray),0⟩ : S24),(⟨(⟨#[2,0,97,3,1,0,0,0]⟩ : ByteArray),9,(⟨#[97,97]⟩ : ByteArray),0⟩ : S24),(⟨(⟨#[2,0,97,3,1,0,0]⟩ : ByteArray),9,(⟨#[]⟩ : ByteArray),8⟩ : S24),(⟨(⟨#[2,0,97,3,1,0,0,1]⟩ : ByteArray),9,(⟨#[]⟩ : ByteArray),4⟩ : S24),(⟨(⟨#[2,240,1,97,98]⟩ : ByteArray),9,(⟨#[97,98]⟩ : ByteArray),0⟩ : S24),(⟨(⟨#[2,244,1,0,97,98]⟩ : ByteArray),9,(⟨#[97,98]⟩ : ByteArray),0⟩ : S24),(⟨(⟨#[2,248,1,0,0,97,98]⟩ : ByteArray),9,(⟨#[97,98]⟩ : ByteArray),0⟩ : S24),(⟨(⟨#[2,252,1,0,0,0,97,98]⟩ : ByteArray),9,(⟨#[97,98]⟩ : ByteArray),0⟩ : S24),(⟨(⟨#[2,252,1,0,0,1,97,98]⟩ : ByteArray),9,(⟨#[]⟩ : ByteArray),8⟩ : S24),(⟨(⟨#[2,252,255,255,255,255,97,98]⟩ : ByteArray),9,(⟨#[]⟩ : ByteArray),8⟩ : S24),(⟨(⟨#[130,0,4,97,98]⟩ : ByteArray),9,(⟨#[97,98]⟩ : ByteArray),0⟩ : S24)] : List (S24)) : List (S24))).bind fun y287=>(batonlaw03_SnappyNames.l0 k y287 (y287.length : Int) 0)) else (some false))) = some r := h
 clear h
 replace H := Option.bind_eq_some_iff.mp H
 obtain ⟨t286,A10,H⟩ := H
 replace H : (if t286 = true then ((some (([(⟨(⟨#[]⟩ : ByteArray),9,(⟨#[]⟩ : ByteArray),8⟩ : S24),(⟨(⟨#[0]⟩ : ByteArray),0,(⟨#[]⟩ : ByteArray),0⟩ : S24),(⟨(⟨#[0]⟩ : ByteArray),(-1),(⟨#[]⟩ : ByteArray),40⟩ : S24),(⟨(⟨#[1]⟩ : ByteArray),9,(⟨#[]⟩ : ByteArray),4⟩ : S24),(⟨(⟨#[10]⟩ : ByteArray),9,(⟨#[]⟩ : ByteArray),40⟩ : S24),(⟨(⟨#[128,128,128,128,16]⟩ : ByteArray),1099511627776,(⟨#[]⟩ : ByteArray),4⟩ : S24),(⟨(⟨#[3,8,97,98]⟩ : ByteArray),9,(⟨#[]⟩ : ByteArray),8⟩ : S24),(⟨(⟨#[2,8,97,98,99]⟩ : ByteArray),9,(⟨#[]⟩ : ByteArray),4⟩ : S24),(⟨(⟨#[4,8,97,98,99]⟩ : ByteArray),9,(⟨#[]⟩ : ByteArray),4⟩ : S24),(⟨(⟨#[5,1,1]⟩ : ByteArray),9,(⟨#[]⟩ : ByteArray),4⟩ : S24),(⟨(⟨#[5,1]⟩ : ByteArray),9,(⟨#[]⟩ : ByteArray),8⟩ : S24),(⟨(⟨#[5,0,97,1,0]⟩ : ByteArray),9,(⟨#[]⟩ : ByteArray),4⟩ : S24),(⟨(⟨#[5,0,97,1,2]⟩ : ByteArray),9,(⟨#[]⟩ : ByteArray),4⟩ : S24),(⟨(⟨#[5,0,97,1,1]⟩ : ByteArray),9,(⟨#[97,97,97,97,97]⟩ : ByteArray),0⟩ : S24),(⟨(⟨#[2,0,97,2,1,0]⟩ : ByteArray),9,(⟨#[97,97]⟩ : ByteArray),0⟩ : S24),(⟨(⟨#[2,0,97,3,1,0,0,0]⟩ : ByteArray),9,(⟨#[97,97]⟩ : ByteArray),0⟩ : S24),(⟨(⟨#[2,0,97,3,1,0,0]⟩ : ByteArray),9,(⟨#[]⟩ : ByteArray),8⟩ : S24),(⟨(⟨#[2,0,97,3,1,0,0,1]⟩ : ByteArray),9,(⟨#[]⟩ : ByteArray),4⟩ : S24),(⟨(⟨#[2,240,1,97,98]⟩ : ByteArray),9,(⟨#[97,98]⟩ : ByteArray),0⟩ : S24),(⟨(⟨#[2,244,1,0,97,98]⟩ : ByteArray),9,(⟨#[97,98]⟩ : ByteArray),0⟩ : S24),(⟨(⟨#[2,248,1,0,0,97,98]⟩ : ByteArray),9,(⟨#[97,98]⟩ : ByteArray),0⟩ : S24),(⟨(⟨#[2,252,1,0,0,0,97,98]⟩ : ByteArray),9,(⟨#[97,98]⟩ : ByteArray),0⟩ : S24),(⟨(⟨#[2,252,1,0,0,1,97,98]⟩ : ByteArray),9,(⟨#[]⟩ : ByteArray),8⟩ : S24),(⟨(⟨#[2,252,255,255,255,255,97,98]⟩ : ByteArray),9,(⟨#[]⟩ : ByteArray),8⟩ : S24),(⟨(⟨#[130,0,4,97,98]⟩ : ByteArray),9,(⟨#[97,98]⟩ : ByteArray),0⟩ : S24)] : List (S24)) : List (S24))).bind fun y287=>(batonlaw03_SnappyNames.l0 k y287 (y287.length : Int) 0)) else (some false)) = some r := H
 have A1 := Aside0.mk A10
 clear A10
 by_cases c2 : t286 = true
 ·subst c2
  have H1 : ((some (([(⟨(⟨#[]⟩ : ByteArray),9,(⟨#[]⟩ : ByteArray),8⟩ : S24),(⟨(⟨#[0]⟩ : ByteArray),0,(⟨#[]⟩ : ByteArray),0⟩ : S24),(⟨(⟨#[0]⟩ : ByteArray),(-1),(⟨#[]⟩ : ByteArray),40⟩ : S24),(⟨(⟨#[1]⟩ : ByteArray),9,(⟨#[]⟩ : ByteArray),4⟩ : S24),(⟨(⟨#[10]⟩ : ByteArray),9,(⟨#[]⟩ : ByteArray),40⟩ : S24),(⟨(⟨#[128,128,128,128,16]⟩ : ByteArray),1099511627776,(⟨#[]⟩ : ByteArray),4⟩ : S24),(⟨(⟨#[3,8,97,98]⟩ : ByteArray),9,(⟨#[]⟩ : ByteArray),8⟩ : S24),(⟨(⟨#[2,8,97,98,99]⟩ : ByteArray),9,(⟨#[]⟩ : ByteArray),4⟩ : S24),(⟨(⟨#[4,8,97,98,99]⟩ : ByteArray),9,(⟨#[]⟩ : ByteArray),4⟩ : S24),(⟨(⟨#[5,1,1]⟩ : ByteArray),9,(⟨#[]⟩ : ByteArray),4⟩ : S24),(⟨(⟨#[5,1]⟩ : ByteArray),9,(⟨#[]⟩ : ByteArray),8⟩ : S24),(⟨(⟨#[5,0,97,1,0]⟩ : ByteArray),9,(⟨#[]⟩ : ByteArray),4⟩ : S24),(⟨(⟨#[5,0,97,1,2]⟩ : ByteArray),9,(⟨#[]⟩ : ByteArray),4⟩ : S24),(⟨(⟨#[5,0,97,1,1]⟩ : ByteArray),9,(⟨#[97,97,97,97,97]⟩ : ByteArray),0⟩ : S24),(⟨(⟨#[2,0,97,2,1,0]⟩ : ByteArray),9,(⟨#[97,97]⟩ : ByteArray),0⟩ : S24),(⟨(⟨#[2,0,97,3,1,0,0,0]⟩ : ByteArray),9,(⟨#[97,97]⟩ : ByteArray),0⟩ : S24),(⟨(⟨#[2,0,97,3,1,0,0]⟩ : ByteArray),9,(⟨#[]⟩ : ByteArray),8⟩ : S24),(⟨(⟨#[2,0,97,3,1,0,0,1]⟩ : ByteArray),9,(⟨#[]⟩ : ByteArray),4⟩ : S24),(⟨(⟨#[2,240,1,97,98]⟩ : ByteArray),9,(⟨#[97,98]⟩ : ByteArray),0⟩ : S24),(⟨(⟨#[2,244,1,0,97,98]⟩ : ByteArray),9,(⟨#[97,98]⟩ : ByteArray),0⟩ : S24),(⟨(⟨#[2,248,1,0,0,97,98]⟩ : ByteArray),9,(⟨#[97,98]⟩ : ByteArray),0⟩ : S24),(⟨(⟨#[2,252,1,0,0,0,97,98]⟩ : ByteArray),9,(⟨#[97,98]⟩ : ByteArray),0⟩ : S24),(⟨(⟨#[2,252,1,0,0,1,97,98]⟩ : ByteArray),9,(⟨#[]⟩ : ByteArray),8⟩ : S24),(⟨(⟨#[2,252,255,255,255,255,97,98]⟩ : ByteArray),9,(⟨#[]⟩ : ByteArray),8⟩ : S24),(⟨(⟨#[130,0,4,97,98]⟩ : ByteArray),9,(⟨#[97,98]⟩ : ByteArray),0⟩ : S24)] : List (S24)) : List (S24))).bind fun y287=>(batonlaw03_SnappyNames.l0 k y287 (y287.length : Int) 0)) = some r := by rw [if_pos rfl] at H;exact H
  clear H
  have H := H1
  clear H1
  obtain ⟨y287,hy287⟩ : ∃ y_ : List (S24),y_ = (([(⟨(⟨#[]⟩ : ByteArray),9,(⟨#[]⟩ : ByteArray),8⟩ : S24),(⟨(⟨#[0]⟩ : ByteArray),0,(⟨#[]⟩ : ByteArray),0⟩ : S24),(⟨(⟨#[0]⟩ : ByteArray),(-1),(⟨#[]⟩ : ByteArray),40⟩ : S24),(⟨(⟨#[1]⟩ : ByteArray),9,(⟨#[]⟩ : ByteArray),4⟩ : S24),(⟨(⟨#[10]⟩ : ByteArray),9,(⟨#[]⟩ : ByteArray),40⟩ : S24),(⟨(⟨#[128,128,128,128,16]⟩ : ByteArray),1099511627776,(⟨#[]⟩ : ByteArray),4⟩ : S24),(⟨(⟨#[3,8,97,98]⟩ : ByteArray),9,(⟨#[]⟩ : ByteArray),8⟩ : S24),(⟨(⟨#[2,8,97,98,99]⟩ : ByteArray),9,(⟨#[]⟩ : ByteArray),4⟩ : S24),(⟨(⟨#[4,8,97,98,99]⟩ : ByteArray),9,(⟨#[]⟩ : ByteArray),4⟩ : S24),(⟨(⟨#[5,1,1]⟩ : ByteArray),9,(⟨#[]⟩ : ByteArray),4⟩ : S24),(⟨(⟨#[5,1]⟩ : ByteArray),9,(⟨#[]⟩ : ByteArray),8⟩ : S24),(⟨(⟨#[5,0,97,1,0]⟩ : ByteArray),9,(⟨#[]⟩ : ByteArray),4⟩ : S24),(⟨(⟨#[5,0,97,1,2]⟩ : ByteArray),9,(⟨#[]⟩ : ByteArray),4⟩ : S24),(⟨(⟨#[5,0,97,1,1]⟩ : ByteArray),9,(⟨#[97,97,97,97,97]⟩ : ByteArray),0⟩ : S24),(⟨(⟨#[2,0,97,2,1,0]⟩ : ByteArray),9,(⟨#[97,97]⟩ : ByteArray),0⟩ : S24),(⟨(⟨#[2,0,97,3,1,0,0,0]⟩ : ByteArray),9,(⟨#[97,97]⟩ : ByteArray),0⟩ : S24),(⟨(⟨#[2,0,97,3,1,0,0]⟩ : ByteArray),9,(⟨#[]⟩ : ByteArray),8⟩ : S24),(⟨(⟨#[2,0,97,3,1,0,0,1]⟩ : ByteArray),9,(⟨#[]⟩ : ByteArray),4⟩ : S24),(⟨(⟨#[2,240,1,97,98]⟩ : ByteArray),9,(⟨#[97,98]⟩ : ByteArray),0⟩ : S24),(⟨(⟨#[2,244,1,0,97,98]⟩ : ByteArray),9,(⟨#[97,98]⟩ : ByteArray),0⟩ : S24),(⟨(⟨#[2,248,1,0,0,97,98]⟩ : ByteArray),9,(⟨#[97,98]⟩ : ByteArray),0⟩ : S24),(⟨(⟨#[2,252,1,0,0,0,97,98]⟩ : ByteArray),9,(⟨#[97,98]⟩ : ByteArray),0⟩ : S24),(⟨(⟨#[2,252,1,0,0,1,97,98]⟩ : ByteArray),9,(⟨#[]⟩ : ByteArray),8⟩ : S24),(⟨(⟨#[2,252,255,255,255,255,97,98]⟩ : ByteArray),9,(⟨#[]⟩ : ByteArray),8⟩ : S24),(⟨(⟨#[130,0,4,97,98]⟩ : ByteArray),9,(⟨#[97,98]⟩ : ByteArray),0⟩ : S24)] : List (S24))) := ⟨_,rfl⟩
  replace H : (batonlaw03_SnappyNames.l0 k y287 (y287.length : Int) 0) = some r := by first|(rw [hy287];with_reducible exact H)|(have H2_ := (Option.bind_some _ _).symm.trans H;rw [hy287];with_reducible exact H2_)|(have H2_ := (Option.bind_some _ _).symm.trans H;with_reducible exact H2_)|with_reducible exact H|(rw [hy287];exact H)|exact H
  have Ny287 := Aside0.mk hy287
  clear hy287
  have H' := Aside0.mk H
  clear H
  go_enter Try.func3,Try.ntmps3
  go_wp2_with (first|((with_reducible refine gate_callee (f := 12) rfl ?_);refine goesL_ (some 28) rfl rfl Try.func12 q9_ rfl #[] rfl q0_ ?_;(with_reducible refine (batonlaw03_awake.calls k  true _ A1.out).mono ?_);rintro e w3 ⟨rfl,hb⟩;refine ⟨_,rfl,?_⟩;have n0_ := Aside0.mk (below_step (bl_) hb);clear HB;have HB := n0_;clear n0_;(try clear hb);(try clear hb2);(try clear hk);(try clear hi))|((with_reducible refine gate_dst (N := 55) rfl ?_);(try (refine gate_guard (by rfl) ?_;dsimp only));refine Kd.R_lit k24 _ 24 ?hg (N := 55) ?hd (xs := ([(⟨(⟨#[]⟩ : ByteArray),9,(⟨#[]⟩ : ByteArray),8⟩ : S24),(⟨(⟨#[0]⟩ : ByteArray),0,(⟨#[]⟩ : ByteArray),0⟩ : S24),(⟨(⟨#[0]⟩ : ByteArray),(-1),(⟨#[]⟩ : ByteArray),40⟩ : S24),(⟨(⟨#[1]⟩ : ByteArray),9,(⟨#[]⟩ : ByteArray),4⟩ : S24),(⟨(⟨#[10]⟩ : ByteArray),9,(⟨#[]⟩ : ByteArray),40⟩ : S24),(⟨(⟨#[128,128,128,128,16]⟩ : ByteArray),1099511627776,(⟨#[]⟩ : ByteArray),4⟩ : S24),(⟨(⟨#[3,8,97,98]⟩ : ByteArray),9,(⟨#[]⟩ : ByteArray),8⟩ : S24),(⟨(⟨#[2,8,97,98,99]⟩ : ByteArray),9,(⟨#[]⟩ : ByteArray),4⟩ : S24),(⟨(⟨#[4,8,97,98,99]⟩ : ByteArray),9,(⟨#[]⟩ : ByteArray),4⟩ : S24),(⟨(⟨#[5,1,1]⟩ : ByteArray),9,(⟨#[]⟩ : ByteArray),4⟩ : S24),(⟨(⟨#[5,1]⟩ : ByteArray),9,(⟨#[]⟩ : ByteArray),8⟩ : S24),(⟨(⟨#[5,0,97,1,0]⟩ : ByteArray),9,(⟨#[]⟩ : ByteArray),4⟩ : S24),(⟨(⟨#[5,0,97,1,2]⟩ : ByteArray),9,(⟨#[]⟩ : ByteArray),4⟩ : S24),(⟨(⟨#[5,0,97,1,1]⟩ : ByteArray),9,(⟨#[97,97,97,97,97]⟩ : ByteArray),0⟩ : S24),(⟨(⟨#[2,0,97,2,1,0]⟩ : ByteArray),9,(⟨#[97,97]⟩ : ByteArray),0⟩ : S24),(⟨(⟨#[2,0,97,3,1,0,0,0]⟩ : ByteArray),9,(⟨#[97,97]⟩ : ByteArray),0⟩ : S24),(⟨(⟨#[2,0,97,3,1,0,0]⟩ : ByteArray),9,(⟨#[]⟩ : ByteArray),8⟩ : S24),(⟨(⟨#[2,0,97,3,1,0,0,1]⟩ : ByteArray),9,(⟨#[]⟩ : ByteArray),4⟩ : S24),(⟨(⟨#[2,240,1,97,98]⟩ : ByteArray),9,(⟨#[97,98]⟩ : ByteArray),0⟩ : S24),(⟨(⟨#[2,244,1,0,97,98]⟩ : ByteArray),9,(⟨#[97,98]⟩ : ByteArray),0⟩ : S24),(⟨(⟨#[2,248,1,0,0,97,98]⟩ : ByteArray),9,(⟨#[97,98]⟩ : ByteArray),0⟩ : S24),(⟨(⟨#[2,252,1,0,0,0,97,98]⟩ : ByteArray),9,(⟨#[97,98]⟩ : ByteArray),0⟩ : S24),(⟨(⟨#[2,252,1,0,0,1,97,98]⟩ : ByteArray),9,(⟨#[]⟩ : ByteArray),8⟩ : S24),(⟨(⟨#[2,252,255,255,255,255,97,98]⟩ : ByteArray),9,(⟨#[]⟩ : ByteArray),8⟩ : S24),(⟨(⟨#[130,0,4,97,98]⟩ : ByteArray),9,(⟨#[97,98]⟩ : ByteArray),0⟩ : S24)] : List (S24))) (inner := [.string (⟨#[]⟩ : ByteArray),.int .i64 9,.string (⟨#[]⟩ : ByteArray),.int .i64 8,.string (⟨#[0]⟩ : ByteArray),.int .i64 0,.string (⟨#[]⟩ : ByteArray),.int .i64 0,.string (⟨#[0]⟩ : ByteArray),.int .i64 (-1),.string (⟨#[]⟩ : ByteArray),.int .i64 40,.string (⟨#[1]⟩ : ByteArray),.int .i64 9,.string (⟨#[]⟩ : ByteArray),.int .i64 4,.string (⟨#[10]⟩ : ByteArray),.int .i64 9,.string (⟨#[]⟩ : ByteArray),.int .i64 40,.string (⟨#[128,128,128,128,16]⟩ : ByteArray),.int .i64 1099511627776,.string (⟨#[]⟩ : ByteArray),.int .i64 4,.string (⟨#[3,8,97,98]⟩ : ByteArray),.int .i64 9,.string (⟨#[]⟩ : ByteArray),.int .i64 8,.string (⟨#[2,8,97,98,99]⟩ : ByteArray),.int .i64 9,.string (⟨#[]⟩ : ByteArray),.int .i64 4,.string (⟨#[4,8,97,98,99]⟩ : ByteArray),.int .i64 9,.string (⟨#[]⟩ : ByteArray),.int .i64 4,.string (⟨#[5,1,1]⟩ : ByteArray),.int .i64 9,.string (⟨#[]⟩ : ByteArray),.int .i64 4,.string (⟨#[5,1]⟩ : ByteArray),.int .i64 9,.string (⟨#[]⟩ : ByteArray),.int .i64 8,.string (⟨#[5,0,97,1,0]⟩ : ByteArray),.int .i64 9,.string (⟨#[]⟩ : ByteArray),.int .i64 4,.string (⟨#[5,0,97,1,2]⟩ : ByteArray),.int .i64 9,.string (⟨#[]⟩ : ByteArray),.int .i64 4,.string (⟨#[5,0,97,1,1]⟩ : ByteArray),.int .i64 9,.string (⟨#[97,97,97,97,97]⟩ : ByteArray),.int .i64 0,.string (⟨#[2,0,97,2,1,0]⟩ : ByteArray),.int .i64 9,.string (⟨#[97,97]⟩ : ByteArray),.int .i64 0,.string (⟨#[2,0,97,3,1,0,0,0]⟩ : ByteArray),.int .i64 9,.string (⟨#[97,97]⟩ : ByteArray),.int .i64 0,.string (⟨#[2,0,97,3,1,0,0]⟩ : ByteArray),.int .i64 9,.string (⟨#[]⟩ : ByteArray),.int .i64 8,.string (⟨#[2,0,97,3,1,0,0,1]⟩ : ByteArray),.int .i64 9,.string (⟨#[]⟩ : ByteArray),.int .i64 4,.string (⟨#[2,240,1,97,98]⟩ : ByteArray),.int .i64 9,.string (⟨#[97,98]⟩ : ByteArray),.int .i64 0,.string (⟨#[2,244,1,0,97,98]⟩ : ByteArray),.int .i64 9,.string (⟨#[97,98]⟩ : ByteArray),.int .i64 0,.string (⟨#[2,248,1,0,0,97,98]⟩ : ByteArray),.int .i64 9,.string (⟨#[97,98]⟩ : ByteArray),.int .i64 0,.string (⟨#[2,252,1,0,0,0,97,98]⟩ : ByteArray),.int .i64 9,.string (⟨#[97,98]⟩ : ByteArray),.int .i64 0,.string (⟨#[2,252,1,0,0,1,97,98]⟩ : ByteArray),.int .i64 9,.string (⟨#[]⟩ : ByteArray),.int .i64 8,.string (⟨#[2,252,255,255,255,255,97,98]⟩ : ByteArray),.int .i64 9,.string (⟨#[]⟩ : ByteArray),.int .i64 8,.string (⟨#[130,0,4,97,98]⟩ : ByteArray),.int .i64 9,.string (⟨#[97,98]⟩ : ByteArray),.int .i64 0]) (ok := fun _=>True) (okp := fun _=>True) ?hr ?hp (fun _ hk=>hk) trivial (Below.refl _ _) (Nat.le_refl _) (by simp) ?_;(case hd=>rfl);(case hg=>rfl);(case hr=>first|(go_simp;done)|(go_simp;rfl)|(go_simp;simp [my_u8w];done));(case hp=>exact (Reps.c4 (show Kd.M k24 _ _ _ (⟨(⟨#[]⟩ : ByteArray),9,(⟨#[]⟩ : ByteArray),8⟩ : S24) [.string (⟨#[]⟩ : ByteArray),.int .i64 9,.string (⟨#[]⟩ : ByteArray),.int .i64 8] from (k24_mkM _ _ _ (⟨(⟨#[]⟩ : ByteArray),9,(⟨#[]⟩ : ByteArray),8⟩ : S24) )) (Reps.c4 (show Kd.M k24 _ _ _ (⟨(⟨#[0]⟩ : ByteArray),0,(⟨#[]⟩ : ByteArray),0⟩ : S24) [.string (⟨#[0]⟩ : ByteArray),.int .i64 0,.string (⟨#[]⟩ : ByteArray),.int .i64 0] from (k24_mkM _ _ _ (⟨(⟨#[0]⟩ : ByteArray),0,(⟨#[]⟩ : ByteArray),0⟩ : S24) )) (Reps.c4 (show Kd.M k24 _ _ _ (⟨(⟨#[0]⟩ : ByteArray),(-1),(⟨#[]⟩ : ByteArray),40⟩ : S24) [.string (⟨#[0]⟩ : ByteArray),.int .i64 (-1),.string (⟨#[]⟩ : ByteArray),.int .i64 40] from (k24_mkM _ _ _ (⟨(⟨#[0]⟩ : ByteArray),(-1),(⟨#[]⟩ : ByteArray),40⟩ : S24) )) (Reps.c4 (show Kd.M k24 _ _ _ (⟨(⟨#[1]⟩ : ByteArray),9,(⟨#[]⟩ : ByteArray),4⟩ : S24) [.string (⟨#[1]⟩ : ByteArray),.int .i64 9,.string (⟨#[]⟩ : ByteArray),.int .i64 4] from (k24_mkM _ _ _ (⟨(⟨#[1]⟩ : ByteArray),9,(⟨#[]⟩ : ByteArray),4⟩ : S24) )) (Reps.c4 (show Kd.M k24 _ _ _ (⟨(⟨#[10]⟩ : ByteArray),9,(⟨#[]⟩ : ByteArray),40⟩ : S24) [.string (⟨#[10]⟩ : ByteArray),.int .i64 9,.string (⟨#[]⟩ : ByteArray),.int .i64 40] from (k24_mkM _ _ _ (⟨(⟨#[10]⟩ : ByteArray),9,(⟨#[]⟩ : ByteArray),40⟩ : S24) )) (Reps.c4 (show Kd.M k24 _ _ _ (⟨(⟨#[128,128,128,128,16]⟩ : ByteArray),1099511627776,(⟨#[]⟩ : ByteArray),4⟩ : S24) [.string (⟨#[128,128,128,128,16]⟩ : ByteArray),.int .i64 1099511627776,.string (⟨#[]⟩ : ByteArray),.int .i64 4] from (k24_mkM _ _ _ (⟨(⟨#[128,128,128,128,16]⟩ : ByteArray),1099511627776,(⟨#[]⟩ : ByteArray),4⟩ : S24) )) (Reps.c4 (show Kd.M k24 _ _ _ (⟨(⟨#[3,8,97,98]⟩ : ByteArray),9,(⟨#[]⟩ : ByteArray),8⟩ : S24) [.string (⟨#[3,8,97,98]⟩ : ByteArray),.int .i64 9,.string (⟨#[]⟩ : ByteArray),.int .i64 8] from (k24_mkM _ _ _ (⟨(⟨#[3,8,97,98]⟩ : ByteArray),9,(⟨#[]⟩ : ByteArray),8⟩ : S24) )) (Reps.c4 (show Kd.M k24 _ _ _ (⟨(⟨#[2,8,97,98,99]⟩ : ByteArray),9,(⟨#[]⟩ : ByteArray),4⟩ : S24) [.string (⟨#[2,8,97,98,99]⟩ : ByteArray),.int .i64 9,.string (⟨#[]⟩ : ByteArray),.int .i64 4] from (k24_mkM _ _ _ (⟨(⟨#[2,8,97,98,99]⟩ : ByteArray),9,(⟨#[]⟩ : ByteArray),4⟩ : S24) )) (Reps.c4 (show Kd.M k24 _ _ _ (⟨(⟨#[4,8,97,98,99]⟩ : ByteArray),9,(⟨#[]⟩ : ByteArray),4⟩ : S24) [.string (⟨#[4,8,97,98,99]⟩ : ByteArray),.int .i64 9,.string (⟨#[]⟩ : ByteArray),.int .i64 4] from (k24_mkM _ _ _ (⟨(⟨#[4,8,97,98,99]⟩ : ByteArray),9,(⟨#[]⟩ : ByteArray),4⟩ : S24) )) (Reps.c4 (show Kd.M k24 _ _ _ (⟨(⟨#[5,1,1]⟩ : ByteArray),9,(⟨#[]⟩ : ByteArray),4⟩ : S24) [.string (⟨#[5,1,1]⟩ : ByteArray),.int .i64 9,.string (⟨#[]⟩ : ByteArray),.int .i64 4] from (k24_mkM _ _ _ (⟨(⟨#[5,1,1]⟩ : ByteArray),9,(⟨#[]⟩ : ByteArray),4⟩ : S24) )) (Reps.c4 (show Kd.M k24 _ _ _ (⟨(⟨#[5,1]⟩ : ByteArray),9,(⟨#[]⟩ : ByteArray),8⟩ : S24) [.string (⟨#[5,1]⟩ : ByteArray),.int .i64 9,.string (⟨#[]⟩ : ByteArray),.int .i64 8] from (k24_mkM _ _ _ (⟨(⟨#[5,1]⟩ : ByteArray),9,(⟨#[]⟩ : ByteArray),8⟩ : S24) )) (Reps.c4 (show Kd.M k24 _ _ _ (⟨(⟨#[5,0,97,1,0]⟩ : ByteArray),9,(⟨#[]⟩ : ByteArray),4⟩ : S24) [.string (⟨#[5,0,97,1,0]⟩ : ByteArray),.int .i64 9,.string (⟨#[]⟩ : ByteArray),.int .i64 4] from (k24_mkM _ _ _ (⟨(⟨#[5,0,97,1,0]⟩ : ByteArray),9,(⟨#[]⟩ : ByteArray),4⟩ : S24) )) (Reps.c4 (show Kd.M k24 _ _ _ (⟨(⟨#[5,0,97,1,2]⟩ : ByteArray),9,(⟨#[]⟩ : ByteArray),4⟩ : S24) [.string (⟨#[5,0,97,1,2]⟩ : ByteArray),.int .i64 9,.string (⟨#[]⟩ : ByteArray),.int .i64 4] from (k24_mkM _ _ _ (⟨(⟨#[5,0,97,1,2]⟩ : ByteArray),9,(⟨#[]⟩ : ByteArray),4⟩ : S24) )) (Reps.c4 (show Kd.M k24 _ _ _ (⟨(⟨#[5,0,97,1,1]⟩ : ByteArray),9,(⟨#[97,97,97,97,97]⟩ : ByteArray),0⟩ : S24) [.string (⟨#[5,0,97,1,1]⟩ : ByteArray),.int .i64 9,.string (⟨#[97,97,97,97,97]⟩ : ByteArray),.int .i64 0] from (k24_mkM _ _ _ (⟨(⟨#[5,0,97,1,1]⟩ : ByteArray),9,(⟨#[97,97,97,97,97]⟩ : ByteArray),0⟩ : S24) )) (Reps.c4 (show Kd.M k24 _ _ _ (⟨(⟨#[2,0,97,2,1,0]⟩ : ByteArray),9,(⟨#[97,97]⟩ : ByteArray),0⟩ : S24) [.string (⟨#[2,0,97,2,1,0]⟩ : ByteArray),.int .i64 9,.string (⟨#[97,97]⟩ : ByteArray),.int .i64 0] from (k24_mkM _ _ _ (⟨(⟨#[2,0,97,2,1,0]⟩ : ByteArray),9,(⟨#[97,97]⟩ : ByteArray),0⟩ : S24) )) (Reps.c4 (show Kd.M k24 _ _ _ (⟨(⟨#[2,0,97,3,1,0,0,0]⟩ : ByteArray),9,(⟨#[97,97]⟩ : ByteArray),0⟩ : S24) [.string (⟨#[2,0,97,3,1,0,0,0]⟩ : ByteArray),.int .i64 9,.string (⟨#[97,97]⟩ : ByteArray),.int .i64 0] from (k24_mkM _ _ _ (⟨(⟨#[2,0,97,3,1,0,0,0]⟩ : ByteArray),9,(⟨#[97,97]⟩ : ByteArray),0⟩ : S24) )) (Reps.c4 (show Kd.M k24 _ _ _ (⟨(⟨#[2,0,97,3,1,0,0]⟩ : ByteArray),9,(⟨#[]⟩ : ByteArray),8⟩ : S24) [.string (⟨#[2,0,97,3,1,0,0]⟩ : ByteArray),.int .i64 9,.string (⟨#[]⟩ : ByteArray),.int .i64 8] from (k24_mkM _ _ _ (⟨(⟨#[2,0,97,3,1,0,0]⟩ : ByteArray),9,(⟨#[]⟩ : ByteArray),8⟩ : S24) )) (Reps.c4 (show Kd.M k24 _ _ _ (⟨(⟨#[2,0,97,3,1,0,0,1]⟩ : ByteArray),9,(⟨#[]⟩ : ByteArray),4⟩ : S24) [.string (⟨#[2,0,97,3,1,0,0,1]⟩ : ByteArray),.int .i64 9,.string (⟨#[]⟩ : ByteArray),.int .i64 4] from (k24_mkM _ _ _ (⟨(⟨#[2,0,97,3,1,0,0,1]⟩ : ByteArray),9,(⟨#[]⟩ : ByteArray),4⟩ : S24) )) (Reps.c4 (show Kd.M k24 _ _ _ (⟨(⟨#[2,240,1,97,98]⟩ : ByteArray),9,(⟨#[97,98]⟩ : ByteArray),0⟩ : S24) [.string (⟨#[2,240,1,97,98]⟩ : ByteArray),.int .i64 9,.string (⟨#[97,98]⟩ : ByteArray),.int .i64 0] from (k24_mkM _ _ _ (⟨(⟨#[2,240,1,97,98]⟩ : ByteArray),9,(⟨#[97,98]⟩ : ByteArray),0⟩ : S24) )) (Reps.c4 (show Kd.M k24 _ _ _ (⟨(⟨#[2,244,1,0,97,98]⟩ : ByteArray),9,(⟨#[97,98]⟩ : ByteArray),0⟩ : S24) [.string (⟨#[2,244,1,0,97,98]⟩ : ByteArray),.int .i64 9,.string (⟨#[97,98]⟩ : ByteArray),.int .i64 0] from (k24_mkM _ _ _ (⟨(⟨#[2,244,1,0,97,98]⟩ : ByteArray),9,(⟨#[97,98]⟩ : ByteArray),0⟩ : S24) )) (Reps.c4 (show Kd.M k24 _ _ _ (⟨(⟨#[2,248,1,0,0,97,98]⟩ : ByteArray),9,(⟨#[97,98]⟩ : ByteArray),0⟩ : S24) [.string (⟨#[2,248,1,0,0,97,98]⟩ : ByteArray),.int .i64 9,.string (⟨#[97,98]⟩ : ByteArray),.int .i64 0] from (k24_mkM _ _ _ (⟨(⟨#[2,248,1,0,0,97,98]⟩ : ByteArray),9,(⟨#[97,98]⟩ : ByteArray),0⟩ : S24) )) (Reps.c4 (show Kd.M k24 _ _ _ (⟨(⟨#[2,252,1,0,0,0,97,98]⟩ : ByteArray),9,(⟨#[97,98]⟩ : ByteArray),0⟩ : S24) [.string (⟨#[2,252,1,0,0,0,97,98]⟩ : ByteArray),.int .i64 9,.string (⟨#[97,98]⟩ : ByteArray),.int .i64 0] from (k24_mkM _ _ _ (⟨(⟨#[2,252,1,0,0,0,97,98]⟩ : ByteArray),9,(⟨#[97,98]⟩ : ByteArray),0⟩ : S24) )) (Reps.c4 (show Kd.M k24 _ _ _ (⟨(⟨#[2,252,1,0,0,1,97,98]⟩ : ByteArray),9,(⟨#[]⟩ : ByteArray),8⟩ : S24) [.string (⟨#[2,252,1,0,0,1,97,98]⟩ : ByteArray),.int .i64 9,.string (⟨#[]⟩ : ByteArray),.int .i64 8] from (k24_mkM _ _ _ (⟨(⟨#[2,252,1,0,0,1,97,98]⟩ : ByteArray),9,(⟨#[]⟩ : ByteArray),8⟩ : S24) )) (Reps.c4 (show Kd.M k24 _ _ _ (⟨(⟨#[2,252,255,255,255,255,97,98]⟩ : ByteArray),9,(⟨#[]⟩ : ByteArray),8⟩ : S24) [.string (⟨#[2,252,255,255,255,255,97,98]⟩ : ByteArray),.int .i64 9,.string (⟨#[]⟩ : ByteArray),.int .i64 8] from (k24_mkM _ _ _ (⟨(⟨#[2,252,255,255,255,255,97,98]⟩ : ByteArray),9,(⟨#[]⟩ : ByteArray),8⟩ : S24) )) (Reps.c4 (show Kd.M k24 _ _ _ (⟨(⟨#[130,0,4,97,98]⟩ : ByteArray),9,(⟨#[97,98]⟩ : ByteArray),0⟩ : S24) [.string (⟨#[130,0,4,97,98]⟩ : ByteArray),.int .i64 9,.string (⟨#[97,98]⟩ : ByteArray),.int .i64 0] from (k24_mkM _ _ _ (⟨(⟨#[130,0,4,97,98]⟩ : ByteArray),9,(⟨#[97,98]⟩ : ByteArray),0⟩ : S24) )) (Reps.none _ _)))))))))))))))))))))))))));intro v288 w4 ho5 hb hg_ hnew_;clear hg_ hnew_;(first|rw [← Ny287.out] at ho5|(simp only [Int.reduceToNat] at ho5;rw [← Ny287.out] at ho5));have n0_ := Aside0.mk (Kd.R_lower ho5 (below_size (bl_)));have n1_ := Aside0.mk (below_step (bl_) hb);clear HB;have HO289 := n0_;have HB := n1_;clear n0_ n1_;clear hb ho5;obtain ⟨Ao6,co6,eo6⟩ := Kd.R_slice HO289.out;subst eo6))
  go_loopg [57] k (fun kq v57 w'=>∃ (x57_1 : Int),v57 = .int .i64 x57_1 ∧ Aside0 (batonlaw03_SnappyNames.l0 kq y287 (y287.length : Int) x57_1 = some r) ∧ Aside0 (kq ≤ k) ∧ Aside0 (Kd.R k24 24 w' w.heap.size (fun _=>True) (.slice Ao6 y287.length co6) y287) ∧ Aside0 (Below w.heap.size w w'))
  case atStart=>exact ⟨(0),q4_,H',⟨Nat.le_refl _⟩,⟨by (with_reducible repeat (first|apply Kd.R_alloc|apply Kd.R_drewN|apply Kd.R_drew));exact HO289.out⟩,⟨bl_⟩⟩
  case round =>
   clear H'
   try clear c1
   try clear c2
   try clear p2
   try clear c3
   try clear c4
   obtain ⟨x57_1,rfl,HA,HK1,HO_55,HB⟩ := hrel
   cases gk with
   | zero=>exact absurd HA.out (by simp [batonlaw03_SnappyNames.l0])
   | succ k1 =>
    have H := HA.out
    clear HA
    simp only [batonlaw03_SnappyNames.l0] at H
    by_cases c7 : x57_1 < (y287.length : Int)
    ·rw [if_pos c7] at H
     have c7b0 : decide (x57_1 < (y287.length : Int)) = true := decide_eq_true c7
     clear c7
     by_cases c8 : 0 ≤ x57_1
     ·rw [if_pos c8] at H
      have c8b0 : decide (0 ≤ x57_1) = true := decide_eq_true c8
      clear c8
      by_cases c9 : x57_1 < (y287.length : Int)
      ·rw [if_pos c9] at H
       have c9b0 : decide (x57_1 < (y287.length : Int)) = true := decide_eq_true c9
       clear c9
       replace H := Option.bind_eq_some_iff.mp H
       obtain ⟨⟨t292,t293⟩,A100,H⟩ := H
       replace H : (if t292.toList = ((rd_T24 y287 x57_1).f2).toList then (if t293 = ((rd_T24 y287 x57_1).f3) then (batonlaw03_SnappyNames.l0 k1 y287 (y287.length : Int) (wrap64 (x57_1 + 1))) else (some false)) else (some false)) = some r := H
       have A10 := Aside0.mk A100
       clear A100
       by_cases c11 : t292.toList = ((rd_T24 y287 x57_1).f2).toList
       ·rw [if_pos c11] at H
        have c11b0 : (t292.toList == ((rd_T24 y287 x57_1).f2).toList) = true := beq_iff_eq.mpr c11
        have c11b1 : (t292.toList != ((rd_T24 y287 x57_1).f2).toList) = false := bne_eq_false_iff_eq.mpr c11
        clear c11
        by_cases c12 : t293 = ((rd_T24 y287 x57_1).f3)
        ·rw [if_pos c12] at H
         have c12b0 : (t293 == ((rd_T24 y287 x57_1).f3)) = true := beq_iff_eq.mpr c12
         have c12b1 : (t293 != ((rd_T24 y287 x57_1).f3)) = false := bne_eq_false_iff_eq.mpr c12
         clear c12
         have H' := Aside0.mk H
         clear H
         have p290 : 0 ≤ (x57_1 : Int) := of_decide_eq_true q3_
         have q290 : x57_1 < (y287.length : Int) := of_decide_eq_true q3_
         obtain ⟨ad290,e290,hx290_0,hx290_1,hx290_2,hx290_3⟩ := at_T24 (Kd.R_reads' HO_55.out).2.2 x57_1 p290 q290
         cases e290
         replace p290 := eq_true p290
         replace q290 := eq_true q290
         go_wp2_with (first|((with_reducible refine gate_dst (N := 2) rfl ?_);(try (refine gate_guard (by rfl) ?_;dsimp only));refine box_event ?hg (N := 2) ?hd (cs := #[.string (⟨#[]⟩ : ByteArray),.int .i64 0,.string (⟨#[]⟩ : ByteArray),.int .i64 0]) (t := 24) ?hr ?_;(case hd=>rfl);(case hg=>rfl);(case hr=>first|(go_simp;done)|(go_simp;rfl)|(go_simp;simp [my_u8w];done));intro gb291 hg w13 hbox hb;have n0_ := Aside0.mk (Kd.R_below (Kd.R_elderB q46_ gb291 (Nat.le_of_eq hg.symm)) hb);have n1_ := Aside0.mk (below_step (bl_) hb);have n2_ := Aside0.mk (hbox);have n3_ := Aside0.mk ((by rw [hg];exact (below_size (bl_)) : w.heap.size ≤ gb291));have n4_ := Aside0.mk ((by rw [hg];exact (below_size (bl_)) : w.heap.size ≤ gb291));clear HO_55;clear HB;have HO_55 := n0_;have HB := n1_;have BK291 := n2_;have GW291 := n3_;have GE291 := n4_;clear n0_ n1_ n2_ n3_ n4_;clear hb hbox hg;have hcz14_0 : w13.cell? ⟨gb291,0,none⟩ = some (.string (⟨#[]⟩ : ByteArray)) := (blk_cell BK291.out 0).trans rfl;have hcz14_1 : w13.cell? ⟨gb291,1,none⟩ = some (.int .i64 0) := (blk_cell BK291.out 1).trans rfl;have hcz14_2 : w13.cell? ⟨gb291,2,none⟩ = some (.string (⟨#[]⟩ : ByteArray)) := (blk_cell BK291.out 2).trans rfl;have hcz14_3 : w13.cell? ⟨gb291,3,none⟩ = some (.int .i64 0) := (blk_cell BK291.out 3).trans rfl;have hfz14_0 := blk_frozen BK291.out 0;have hfz14_1 := blk_frozen BK291.out 1;have hfz14_2 := blk_frozen BK291.out 2;have hfz14_3 := blk_frozen BK291.out 3)|((with_reducible refine gate_callee (f := 13) rfl ?_);refine goesL_ (some 66) rfl rfl Try.func13 q9_ rfl #[.string ((rd_T24 y287 x57_1).f0),.int .i64 ((rd_T24 y287 x57_1).f1)] rfl q0_ ?_;(with_reducible refine (snappy_Decode.calls k1 ((rd_T24 y287 x57_1).f0) ((rd_T24 y287 x57_1).f1) t292 t293 _ A10.out).mono ?_);rintro e w15 ⟨rfl,hb⟩;refine ⟨_,rfl,?_⟩;have n0_ := Aside0.mk (Kd.R_below q52_ hb);have n1_ := Aside0.mk (blk_below (g := gb291) (o := .cells #[.string ((rd_T24 y287 x57_1).f0),.int .i64 ((rd_T24 y287 x57_1).f1),.string ((rd_T24 y287 x57_1).f2),.int .i64 ((rd_T24 y287 x57_1).f3)] 24 (0,0)) q30_ hb);have n2_ := Aside0.mk (below_step q65_ hb);clear HO_55;clear BK291;clear HB;have HO_55 := n0_;have BK291 := n1_;have HB := n2_;clear n0_ n1_ n2_;(try clear hb);(try clear hb2);(try clear hk);(try clear hi);have hcz16_0 : w15.cell? ⟨gb291,0,none⟩ = some (.string ((rd_T24 y287 x57_1).f0)) := (blk_cell BK291.out 0).trans rfl;have hcz16_1 : w15.cell? ⟨gb291,1,none⟩ = some (.int .i64 ((rd_T24 y287 x57_1).f1)) := (blk_cell BK291.out 1).trans rfl;have hcz16_2 : w15.cell? ⟨gb291,2,none⟩ = some (.string ((rd_T24 y287 x57_1).f2)) := (blk_cell BK291.out 2).trans rfl;have hcz16_3 : w15.cell? ⟨gb291,3,none⟩ = some (.int .i64 ((rd_T24 y287 x57_1).f3)) := (blk_cell BK291.out 3).trans rfl;have hfz16_0 := blk_frozen BK291.out 0;have hfz16_1 := blk_frozen BK291.out 1;have hfz16_2 := blk_frozen BK291.out 2;have hfz16_3 := blk_frozen BK291.out 3))
         go_roundg k1
         case measure=>have := HK1.out;omega
         case rel=>exact ⟨(wrap64 (x57_1 + 1)),q4_,H',⟨q85_⟩,⟨by (with_reducible repeat (first|apply Kd.R_alloc|apply Kd.R_drewN|apply Kd.R_drew));exact Kd.R_mono HO_55.out (fun _ hk=>trivial)⟩,⟨q65_⟩⟩
        ·rw [if_neg c12] at H
         have c12b0 : (t293 == ((rd_T24 y287 x57_1).f3)) = false := beq_eq_false_iff_ne.mpr c12
         have c12b1 : (t293 != ((rd_T24 y287 x57_1).f3)) = true := bne_iff_ne.mpr c12
         obtain rfl := Option.some.inj H
         have p290 : 0 ≤ (x57_1 : Int) := of_decide_eq_true q3_
         have q290 : x57_1 < (y287.length : Int) := of_decide_eq_true q3_
         obtain ⟨ad290,e290,hx290_0,hx290_1,hx290_2,hx290_3⟩ := at_T24 (Kd.R_reads' HO_55.out).2.2 x57_1 p290 q290
         cases e290
         replace p290 := eq_true p290
         replace q290 := eq_true q290
         go_wp2_with (first|((with_reducible refine gate_dst (N := 2) rfl ?_);(try (refine gate_guard (by rfl) ?_;dsimp only));refine box_event ?hg (N := 2) ?hd (cs := #[.string (⟨#[]⟩ : ByteArray),.int .i64 0,.string (⟨#[]⟩ : ByteArray),.int .i64 0]) (t := 24) ?hr ?_;(case hd=>rfl);(case hg=>rfl);(case hr=>first|(go_simp;done)|(go_simp;rfl)|(go_simp;simp [my_u8w];done));intro gb291 hg w17 hbox hb;have n0_ := Aside0.mk (Kd.R_below (Kd.R_elderB q46_ gb291 (Nat.le_of_eq hg.symm)) hb);have n1_ := Aside0.mk (below_step (bl_) hb);have n2_ := Aside0.mk (hbox);have n3_ := Aside0.mk ((by rw [hg];exact (below_size (bl_)) : w.heap.size ≤ gb291));have n4_ := Aside0.mk ((by rw [hg];exact (below_size (bl_)) : w.heap.size ≤ gb291));clear HO_55;clear HB;have HO_55 := n0_;have HB := n1_;have BK291 := n2_;have GW291 := n3_;have GE291 := n4_;clear n0_ n1_ n2_ n3_ n4_;clear hb hbox hg;have hcz18_0 : w17.cell? ⟨gb291,0,none⟩ = some (.string (⟨#[]⟩ : ByteArray)) := (blk_cell BK291.out 0).trans rfl;have hcz18_1 : w17.cell? ⟨gb291,1,none⟩ = some (.int .i64 0) := (blk_cell BK291.out 1).trans rfl;have hcz18_2 : w17.cell? ⟨gb291,2,none⟩ = some (.string (⟨#[]⟩ : ByteArray)) := (blk_cell BK291.out 2).trans rfl;have hcz18_3 : w17.cell? ⟨gb291,3,none⟩ = some (.int .i64 0) := (blk_cell BK291.out 3).trans rfl;have hfz18_0 := blk_frozen BK291.out 0;have hfz18_1 := blk_frozen BK291.out 1;have hfz18_2 := blk_frozen BK291.out 2;have hfz18_3 := blk_frozen BK291.out 3)|((with_reducible refine gate_callee (f := 13) rfl ?_);refine goesL_ (some 66) rfl rfl Try.func13 q9_ rfl #[.string ((rd_T24 y287 x57_1).f0),.int .i64 ((rd_T24 y287 x57_1).f1)] rfl q0_ ?_;(with_reducible refine (snappy_Decode.calls k1 ((rd_T24 y287 x57_1).f0) ((rd_T24 y287 x57_1).f1) t292 t293 _ A10.out).mono ?_);rintro e w19 ⟨rfl,hb⟩;refine ⟨_,rfl,?_⟩;have n0_ := Aside0.mk (Kd.R_below q52_ hb);have n1_ := Aside0.mk (blk_below (g := gb291) (o := .cells #[.string ((rd_T24 y287 x57_1).f0),.int .i64 ((rd_T24 y287 x57_1).f1),.string ((rd_T24 y287 x57_1).f2),.int .i64 ((rd_T24 y287 x57_1).f3)] 24 (0,0)) q30_ hb);have n2_ := Aside0.mk (below_step q65_ hb);clear HO_55;clear BK291;clear HB;have HO_55 := n0_;have BK291 := n1_;have HB := n2_;clear n0_ n1_ n2_;(try clear hb);(try clear hb2);(try clear hk);(try clear hi);have hcz20_0 : w19.cell? ⟨gb291,0,none⟩ = some (.string ((rd_T24 y287 x57_1).f0)) := (blk_cell BK291.out 0).trans rfl;have hcz20_1 : w19.cell? ⟨gb291,1,none⟩ = some (.int .i64 ((rd_T24 y287 x57_1).f1)) := (blk_cell BK291.out 1).trans rfl;have hcz20_2 : w19.cell? ⟨gb291,2,none⟩ = some (.string ((rd_T24 y287 x57_1).f2)) := (blk_cell BK291.out 2).trans rfl;have hcz20_3 : w19.cell? ⟨gb291,3,none⟩ = some (.int .i64 ((rd_T24 y287 x57_1).f3)) := (blk_cell BK291.out 3).trans rfl;have hfz20_0 := blk_frozen BK291.out 0;have hfz20_1 := blk_frozen BK291.out 1;have hfz20_2 := blk_frozen BK291.out 2;have hfz20_3 := blk_frozen BK291.out 3))
         go_ret
         exact ⟨q1_,q65_⟩
       ·rw [if_neg c11] at H
        have c11b0 : (t292.toList == ((rd_T24 y287 x57_1).f2).toList) = false := beq_eq_false_iff_ne.mpr c11
        have c11b1 : (t292.toList != ((rd_T24 y287 x57_1).f2).toList) = true := bne_iff_ne.mpr c11
        obtain rfl := Option.some.inj H
        have p290 : 0 ≤ (x57_1 : Int) := of_decide_eq_true q3_
        have q290 : x57_1 < (y287.length : Int) := of_decide_eq_true q3_
        obtain ⟨ad290,e290,hx290_0,hx290_1,hx290_2,hx290_3⟩ := at_T24 (Kd.R_reads' HO_55.out).2.2 x57_1 p290 q290
        cases e290
        replace p290 := eq_true p290
        replace q290 := eq_true q290
        go_wp2_with (first|((with_reducible refine gate_dst (N := 2) rfl ?_);(try (refine gate_guard (by rfl) ?_;dsimp only));refine box_event ?hg (N := 2) ?hd (cs := #[.string (⟨#[]⟩ : ByteArray),.int .i64 0,.string (⟨#[]⟩ : ByteArray),.int .i64 0]) (t := 24) ?hr ?_;(case hd=>rfl);(case hg=>rfl);(case hr=>first|(go_simp;done)|(go_simp;rfl)|(go_simp;simp [my_u8w];done));intro gb291 hg w21 hbox hb;have n0_ := Aside0.mk (Kd.R_below (Kd.R_elderB q46_ gb291 (Nat.le_of_eq hg.symm)) hb);have n1_ := Aside0.mk (below_step (bl_) hb);have n2_ := Aside0.mk (hbox);have n3_ := Aside0.mk ((by rw [hg];exact (below_size (bl_)) : w.heap.size ≤ gb291));have n4_ := Aside0.mk ((by rw [hg];exact (below_size (bl_)) : w.heap.size ≤ gb291));clear HO_55;clear HB;have HO_55 := n0_;have HB := n1_;have BK291 := n2_;have GW291 := n3_;have GE291 := n4_;clear n0_ n1_ n2_ n3_ n4_;clear hb hbox hg;have hcz22_0 : w21.cell? ⟨gb291,0,none⟩ = some (.string (⟨#[]⟩ : ByteArray)) := (blk_cell BK291.out 0).trans rfl;have hcz22_1 : w21.cell? ⟨gb291,1,none⟩ = some (.int .i64 0) := (blk_cell BK291.out 1).trans rfl;have hcz22_2 : w21.cell? ⟨gb291,2,none⟩ = some (.string (⟨#[]⟩ : ByteArray)) := (blk_cell BK291.out 2).trans rfl;have hcz22_3 : w21.cell? ⟨gb291,3,none⟩ = some (.int .i64 0) := (blk_cell BK291.out 3).trans rfl;have hfz22_0 := blk_frozen BK291.out 0;have hfz22_1 := blk_frozen BK291.out 1;have hfz22_2 := blk_frozen BK291.out 2;have hfz22_3 := blk_frozen BK291.out 3)|((with_reducible refine gate_callee (f := 13) rfl ?_);refine goesL_ (some 66) rfl rfl Try.func13 q9_ rfl #[.string ((rd_T24 y287 x57_1).f0),.int .i64 ((rd_T24 y287 x57_1).f1)] rfl q0_ ?_;(with_reducible refine (snappy_Decode.calls k1 ((rd_T24 y287 x57_1).f0) ((rd_T24 y287 x57_1).f1) t292 t293 _ A10.out).mono ?_);rintro e w23 ⟨rfl,hb⟩;refine ⟨_,rfl,?_⟩;have n0_ := Aside0.mk (Kd.R_below q52_ hb);have n1_ := Aside0.mk (blk_below (g := gb291) (o := .cells #[.string ((rd_T24 y287 x57_1).f0),.int .i64 ((rd_T24 y287 x57_1).f1),.string ((rd_T24 y287 x57_1).f2),.int .i64 ((rd_T24 y287 x57_1).f3)] 24 (0,0)) q30_ hb);have n2_ := Aside0.mk (below_step q65_ hb);clear HO_55;clear BK291;clear HB;have HO_55 := n0_;have BK291 := n1_;have HB := n2_;clear n0_ n1_ n2_;(try clear hb);(try clear hb2);(try clear hk);(try clear hi);have hcz24_0 : w23.cell? ⟨gb291,0,none⟩ = some (.string ((rd_T24 y287 x57_1).f0)) := (blk_cell BK291.out 0).trans rfl;have hcz24_1 : w23.cell? ⟨gb291,1,none⟩ = some (.int .i64 ((rd_T24 y287 x57_1).f1)) := (blk_cell BK291.out 1).trans rfl;have hcz24_2 : w23.cell? ⟨gb291,2,none⟩ = some (.string ((rd_T24 y287 x57_1).f2)) := (blk_cell BK291.out 2).trans rfl;have hcz24_3 : w23.cell? ⟨gb291,3,none⟩ = some (.int .i64 ((rd_T24 y287 x57_1).f3)) := (blk_cell BK291.out 3).trans rfl;have hfz24_0 := blk_frozen BK291.out 0;have hfz24_1 := blk_frozen BK291.out 1;have hfz24_2 := blk_frozen BK291.out 2;have hfz24_3 := blk_frozen BK291.out 3))
        go_ret
        exact ⟨q1_,q65_⟩
      ·rw [if_neg c9] at H
       exact absurd H (by simp)
     ·rw [if_neg c8] at H
      exact absurd H (by simp)
    ·rw [if_neg c7] at H
     have c7b0 : decide (x57_1 < (y287.length : Int)) = false := decide_eq_false c7
     clear c7
     by_cases c25 : 65537 ≤ 281474976710656
     ·rw [if_pos c25] at H
      have c25b0 := eq_true c25
      have c25b1 : decide (65537 ≤ 281474976710656) = true := decide_eq_true c25
      clear c25
      obtain ⟨y294,hy294⟩ : ∃ y_ : List Int,y_ = (List.replicate 65537 0) := ⟨_,rfl⟩
      replace H : ((snappy_Encode.f k1 (strOfNums y294)).bind fun bt297=>((snappy_Pack.f k1 (strOfNums y294)).bind fun bt299=>((snappy_Write.f k1 (([(⟨false,strOfNums y294,0,0⟩ : S35)] : List (S35)))).bind fun bt306=>(if 1 ≤ ((strOfNums y294).size : Int) then ((snappy_Write.f k1 (([(⟨false,(strOfNums y294).extract 1 (strOfNums y294).size,0,0⟩ : S35),(⟨false,(⟨#[97]⟩ : ByteArray),0,0⟩ : S35)] : List (S35)))).bind fun bt311=>((snappy_Write.f k1 (([(⟨false,(strOfNums y294).extract 1 (strOfNums y294).size,0,0⟩ : S35)] : List (S35)))).bind fun bt316=>((snappy_Decode.f k1 bt316.1 65536).bind fun bt318=>(if bt297.2 = 40 then (if bt299.2 = 40 then (if bt306.2 = 4 then (if bt311.2 = 40 then (if bt316.2 = 0 then (if bt318.1.toList = ((strOfNums y294).extract 1 (strOfNums y294).size).toList then (if bt318.2 = 0 then (batonlaw03_SnappyNames.j1 k1 ((bt316.1.size : Int) != 65542)) else (batonlaw03_SnappyNames.j1 k1 true)) else (batonlaw03_SnappyNames.j1 k1 true)) else (batonlaw03_SnappyNames.j1 k1 true)) else (batonlaw03_SnappyNames.j1 k1 true)) else (batonlaw03_SnappyNames.j1 k1 true)) else (batonlaw03_SnappyNames.j1 k1 true)) else (batonlaw03_SnappyNames.j1 k1 true))))) else (none))))) = some r := by first|(rw [hy294];with_reducible exact H)|(have H2_ := (Option.bind_some _ _).symm.trans H;rw [hy294];with_reducible exact H2_)|(have H2_ := (Option.bind_some _ _).symm.trans H;with_reducible exact H2_)|with_reducible exact H|(rw [hy294];exact H)|exact H
      have Ny294 := Aside0.mk hy294
      clear hy294
      replace H := Option.bind_eq_some_iff.mp H
      obtain ⟨⟨t297,t298⟩,A260,H⟩ := H
      replace H : ((snappy_Pack.f k1 (strOfNums y294)).bind fun bt299=>((snappy_Write.f k1 (([(⟨false,strOfNums y294,0,0⟩ : S35)] : List (S35)))).bind fun bt306=>(if 1 ≤ ((strOfNums y294).size : Int) then ((snappy_Write.f k1 (([(⟨false,(strOfNums y294).extract 1 (strOfNums y294).size,0,0⟩ : S35),(⟨false,(⟨#[97]⟩ : ByteArray),0,0⟩ : S35)] : List (S35)))).bind fun bt311=>((snappy_Write.f k1 (([(⟨false,(strOfNums y294).extract 1 (strOfNums y294).size,0,0⟩ : S35)] : List (S35)))).bind fun bt316=>((snappy_Decode.f k1 bt316.1 65536).bind fun bt318=>(if t298 = 40 then (if bt299.2 = 40 then (if bt306.2 = 4 then (if bt311.2 = 40 then (if bt316.2 = 0 then (if bt318.1.toList = ((strOfNums y294).extract 1 (strOfNums y294).size).toList then (if bt318.2 = 0 then (batonlaw03_SnappyNames.j1 k1 ((bt316.1.size : Int) != 65542)) else (batonlaw03_SnappyNames.j1 k1 true)) else (batonlaw03_SnappyNames.j1 k1 true)) else (batonlaw03_SnappyNames.j1 k1 true)) else (batonlaw03_SnappyNames.j1 k1 true)) else (batonlaw03_SnappyNames.j1 k1 true)) else (batonlaw03_SnappyNames.j1 k1 true)) else (batonlaw03_SnappyNames.j1 k1 true))))) else (none)))) = some r := H
      have A26 := Aside0.mk A260
      clear A260
      replace H := Option.bind_eq_some_iff.mp H
      obtain ⟨⟨t299,t300⟩,A270,H⟩ := H
      replace H : ((snappy_Write.f k1 (([(⟨false,strOfNums y294,0,0⟩ : S35)] : List (S35)))).bind fun bt306=>(if 1 ≤ ((strOfNums y294).size : Int) then ((snappy_Write.f k1 (([(⟨false,(strOfNums y294).extract 1 (strOfNums y294).size,0,0⟩ : S35),(⟨false,(⟨#[97]⟩ : ByteArray),0,0⟩ : S35)] : List (S35)))).bind fun bt311=>((snappy_Write.f k1 (([(⟨false,(strOfNums y294).extract 1 (strOfNums y294).size,0,0⟩ : S35)] : List (S35)))).bind fun bt316=>((snappy_Decode.f k1 bt316.1 65536).bind fun bt318=>(if t298 = 40 then (if t300 = 40 then (if bt306.2 = 4 then (if bt311.2 = 40 then (if bt316.2 = 0 then (if bt318.1.toList = ((strOfNums y294).extract 1 (strOfNums y294).size).toList then (if bt318.2 = 0 then (batonlaw03_SnappyNames.j1 k1 ((bt316.1.size : Int) != 65542)) else (batonlaw03_SnappyNames.j1 k1 true)) else (batonlaw03_SnappyNames.j1 k1 true)) else (batonlaw03_SnappyNames.j1 k1 true)) else (batonlaw03_SnappyNames.j1 k1 true)) else (batonlaw03_SnappyNames.j1 k1 true)) else (batonlaw03_SnappyNames.j1 k1 true)) else (batonlaw03_SnappyNames.j1 k1 true))))) else (none))) = some r := H
      have A27 := Aside0.mk A270
      clear A270
      obtain ⟨y303,hy303⟩ : ∃ y_ : List (S35),y_ = (([(⟨false,strOfNums y294,0,0⟩ : S35)] : List (S35))) := ⟨_,rfl⟩
      replace H : ((snappy_Write.f k1 y303).bind fun bt306=>(if 1 ≤ ((strOfNums y294).size : Int) then ((snappy_Write.f k1 (([(⟨false,(strOfNums y294).extract 1 (strOfNums y294).size,0,0⟩ : S35),(⟨false,(⟨#[97]⟩ : ByteArray),0,0⟩ : S35)] : List (S35)))).bind fun bt311=>((snappy_Write.f k1 (([(⟨false,(strOfNums y294).extract 1 (strOfNums y294).size,0,0⟩ : S35)] : List (S35)))).bind fun bt316=>((snappy_Decode.f k1 bt316.1 65536).bind fun bt318=>(if t298 = 40 then (if t300 = 40 then (if bt306.2 = 4 then (if bt311.2 = 40 then (if bt316.2 = 0 then (if bt318.1.toList = ((strOfNums y294).extract 1 (strOfNums y294).size).toList then (if bt318.2 = 0 then (batonlaw03_SnappyNames.j1 k1 ((bt316.1.size : Int) != 65542)) else (batonlaw03_SnappyNames.j1 k1 true)) else (batonlaw03_SnappyNames.j1 k1 true)) else (batonlaw03_SnappyNames.j1 k1 true)) else (batonlaw03_SnappyNames.j1 k1 true)) else (batonlaw03_SnappyNames.j1 k1 true)) else (batonlaw03_SnappyNames.j1 k1 true)) else (batonlaw03_SnappyNames.j1 k1 true))))) else (none))) = some r := by first|(rw [hy303];with_reducible exact H)|(have H2_ := (Option.bind_some _ _).symm.trans H;rw [hy303];with_reducible exact H2_)|(have H2_ := (Option.bind_some _ _).symm.trans H;with_reducible exact H2_)|with_reducible exact H|(rw [hy303];exact H)|exact H
      have Ny303 := Aside0.mk hy303
      clear hy303
      replace H := Option.bind_eq_some_iff.mp H
      obtain ⟨⟨t306,t307⟩,A280,H⟩ := H
      replace H : (if 1 ≤ ((strOfNums y294).size : Int) then ((snappy_Write.f k1 (([(⟨false,(strOfNums y294).extract 1 (strOfNums y294).size,0,0⟩ : S35),(⟨false,(⟨#[97]⟩ : ByteArray),0,0⟩ : S35)] : List (S35)))).bind fun bt311=>((snappy_Write.f k1 (([(⟨false,(strOfNums y294).extract 1 (strOfNums y294).size,0,0⟩ : S35)] : List (S35)))).bind fun bt316=>((snappy_Decode.f k1 bt316.1 65536).bind fun bt318=>(if t298 = 40 then (if t300 = 40 then (if t307 = 4 then (if bt311.2 = 40 then (if bt316.2 = 0 then (if bt318.1.toList = ((strOfNums y294).extract 1 (strOfNums y294).size).toList then (if bt318.2 = 0 then (batonlaw03_SnappyNames.j1 k1 ((bt316.1.size : Int) != 65542)) else (batonlaw03_SnappyNames.j1 k1 true)) else (batonlaw03_SnappyNames.j1 k1 true)) else (batonlaw03_SnappyNames.j1 k1 true)) else (batonlaw03_SnappyNames.j1 k1 true)) else (batonlaw03_SnappyNames.j1 k1 true)) else (batonlaw03_SnappyNames.j1 k1 true)) else (batonlaw03_SnappyNames.j1 k1 true))))) else (none)) = some r := H
      have A28 := Aside0.mk A280
      clear A280
      by_cases c29 : 1 ≤ ((strOfNums y294).size : Int)
      ·rw [if_pos c29] at H
       have c29b0 := eq_true c29
       have c29b1 : decide (1 ≤ ((strOfNums y294).size : Int)) = true := decide_eq_true c29
       clear c29
       obtain ⟨y308,hy308⟩ : ∃ y_ : List (S35),y_ = (([(⟨false,(strOfNums y294).extract 1 (strOfNums y294).size,0,0⟩ : S35),(⟨false,(⟨#[97]⟩ : ByteArray),0,0⟩ : S35)] : List (S35))) := ⟨_,rfl⟩
       replace H : ((snappy_Write.f k1 y308).bind fun bt311=>((snappy_Write.f k1 (([(⟨false,(strOfNums y294).extract 1 (strOfNums y294).size,0,0⟩ : S35)] : List (S35)))).bind fun bt316=>((snappy_Decode.f k1 bt316.1 65536).bind fun bt318=>(if t298 = 40 then (if t300 = 40 then (if t307 = 4 then (if bt311.2 = 40 then (if bt316.2 = 0 then (if bt318.1.toList = ((strOfNums y294).extract 1 (strOfNums y294).size).toList then (if bt318.2 = 0 then (batonlaw03_SnappyNames.j1 k1 ((bt316.1.size : Int) != 65542)) else (batonlaw03_SnappyNames.j1 k1 true)) else (batonlaw03_SnappyNames.j1 k1 true)) else (batonlaw03_SnappyNames.j1 k1 true)) else (batonlaw03_SnappyNames.j1 k1 true)) else (batonlaw03_SnappyNames.j1 k1 true)) else (batonlaw03_SnappyNames.j1 k1 true)) else (batonlaw03_SnappyNames.j1 k1 true))))) = some r := by first|(rw [hy308];with_reducible exact H)|(have H2_ := (Option.bind_some _ _).symm.trans H;rw [hy308];with_reducible exact H2_)|(have H2_ := (Option.bind_some _ _).symm.trans H;with_reducible exact H2_)|with_reducible exact H|(rw [hy308];exact H)|exact H
       have Ny308 := Aside0.mk hy308
       clear hy308
       replace H := Option.bind_eq_some_iff.mp H
       obtain ⟨⟨t311,t312⟩,A300,H⟩ := H
       replace H : ((snappy_Write.f k1 (([(⟨false,(strOfNums y294).extract 1 (strOfNums y294).size,0,0⟩ : S35)] : List (S35)))).bind fun bt316=>((snappy_Decode.f k1 bt316.1 65536).bind fun bt318=>(if t298 = 40 then (if t300 = 40 then (if t307 = 4 then (if t312 = 40 then (if bt316.2 = 0 then (if bt318.1.toList = ((strOfNums y294).extract 1 (strOfNums y294).size).toList then (if bt318.2 = 0 then (batonlaw03_SnappyNames.j1 k1 ((bt316.1.size : Int) != 65542)) else (batonlaw03_SnappyNames.j1 k1 true)) else (batonlaw03_SnappyNames.j1 k1 true)) else (batonlaw03_SnappyNames.j1 k1 true)) else (batonlaw03_SnappyNames.j1 k1 true)) else (batonlaw03_SnappyNames.j1 k1 true)) else (batonlaw03_SnappyNames.j1 k1 true)) else (batonlaw03_SnappyNames.j1 k1 true)))) = some r := H
       have A30 := Aside0.mk A300
       clear A300
       have c31b0 := eq_true (of_decide_eq_true q3_ : 1 ≤ ((strOfNums y294).size : Int))
       obtain ⟨y313,hy313⟩ : ∃ y_ : List (S35),y_ = (([(⟨false,(strOfNums y294).extract 1 (strOfNums y294).size,0,0⟩ : S35)] : List (S35))) := ⟨_,rfl⟩
       replace H : ((snappy_Write.f k1 y313).bind fun bt316=>((snappy_Decode.f k1 bt316.1 65536).bind fun bt318=>(if t298 = 40 then (if t300 = 40 then (if t307 = 4 then (if t312 = 40 then (if bt316.2 = 0 then (if bt318.1.toList = ((strOfNums y294).extract 1 (strOfNums y294).size).toList then (if bt318.2 = 0 then (batonlaw03_SnappyNames.j1 k1 ((bt316.1.size : Int) != 65542)) else (batonlaw03_SnappyNames.j1 k1 true)) else (batonlaw03_SnappyNames.j1 k1 true)) else (batonlaw03_SnappyNames.j1 k1 true)) else (batonlaw03_SnappyNames.j1 k1 true)) else (batonlaw03_SnappyNames.j1 k1 true)) else (batonlaw03_SnappyNames.j1 k1 true)) else (batonlaw03_SnappyNames.j1 k1 true)))) = some r := by first|(rw [hy313];with_reducible exact H)|(have H2_ := (Option.bind_some _ _).symm.trans H;rw [hy313];with_reducible exact H2_)|(have H2_ := (Option.bind_some _ _).symm.trans H;with_reducible exact H2_)|with_reducible exact H|(rw [hy313];exact H)|exact H
       have Ny313 := Aside0.mk hy313
       clear hy313
       replace H := Option.bind_eq_some_iff.mp H
       obtain ⟨⟨t316,t317⟩,A320,H⟩ := H
       replace H : ((snappy_Decode.f k1 t316 65536).bind fun bt318=>(if t298 = 40 then (if t300 = 40 then (if t307 = 4 then (if t312 = 40 then (if t317 = 0 then (if bt318.1.toList = ((strOfNums y294).extract 1 (strOfNums y294).size).toList then (if bt318.2 = 0 then (batonlaw03_SnappyNames.j1 k1 ((t316.size : Int) != 65542)) else (batonlaw03_SnappyNames.j1 k1 true)) else (batonlaw03_SnappyNames.j1 k1 true)) else (batonlaw03_SnappyNames.j1 k1 true)) else (batonlaw03_SnappyNames.j1 k1 true)) else (batonlaw03_SnappyNames.j1 k1 true)) else (batonlaw03_SnappyNames.j1 k1 true)) else (batonlaw03_SnappyNames.j1 k1 true))) = some r := H
       have A32 := Aside0.mk A320
       clear A320
       replace H := Option.bind_eq_some_iff.mp H
       obtain ⟨⟨t318,t319⟩,A330,H⟩ := H
       replace H : (if t298 = 40 then (if t300 = 40 then (if t307 = 4 then (if t312 = 40 then (if t317 = 0 then (if t318.toList = ((strOfNums y294).extract 1 (strOfNums y294).size).toList then (if t319 = 0 then (batonlaw03_SnappyNames.j1 k1 ((t316.size : Int) != 65542)) else (batonlaw03_SnappyNames.j1 k1 true)) else (batonlaw03_SnappyNames.j1 k1 true)) else (batonlaw03_SnappyNames.j1 k1 true)) else (batonlaw03_SnappyNames.j1 k1 true)) else (batonlaw03_SnappyNames.j1 k1 true)) else (batonlaw03_SnappyNames.j1 k1 true)) else (batonlaw03_SnappyNames.j1 k1 true)) = some r := H
       have A33 := Aside0.mk A330
       clear A330
       have HC34 := Aside0.mk H
       clear H
       go_upto_region 17 with (first|((with_reducible refine gate_dst (N := 80) rfl ?_);(try (refine gate_guard (by rfl) ?_;dsimp only));refine Kd.R_make (Kd.int .u8) _ 5 rfl (N := 80) rfl 28 _ _ rfl 65537 rfl rfl Try.underlying28 (.int .u8 0) 1 info5 rfl (by decide) q75_ 0 (ok := fun _=>True) (okp := fun _=>True) rfl (fun _ hk=>hk) trivial q75_ q75_ (Below.refl _ _) (Nat.le_refl _) ?_;intro v295 w35 ho36 hb hg_ hnew_;clear hg_ hnew_;(first|rw [← Ny294.out] at ho36|(simp only [Int.reduceToNat] at ho36;rw [← Ny294.out] at ho36));have n0_ := Aside0.mk (Kd.R_below q46_ hb);have n1_ := Aside0.mk (Kd.R_lower ho36 (below_size (bl_)));have n2_ := Aside0.mk (below_step (bl_) hb);clear HO_55;clear HB;have HO_55 := n0_;have HO296 := n1_;have HB := n2_;clear n0_ n1_ n2_;clear hb ho36;have hcv37 := own_string (P := Try.prog) Try.underlying28 Try.underlying5 Try.underlying9 (Kd.own_of_R HO296.out))|((with_reducible refine gate_callee (f := 14) rfl ?_);refine goesL_ (some 84) rfl rfl Try.func14 q9_ rfl #[.string (strOfNums y294)] rfl q0_ ?_;(with_reducible refine (snappy_Encode.calls k1 (strOfNums y294) t297 t298 _ A26.out).mono ?_);rintro e w38 ⟨rfl,hb⟩;refine ⟨_,rfl,?_⟩;have n0_ := Aside0.mk (Kd.R_below q46_ hb);have n1_ := Aside0.mk (Kd.R_below q63_ hb);have n2_ := Aside0.mk (below_step (bl_) hb);clear HO_55;clear HO296;clear HB;have HO_55 := n0_;have HO296 := n1_;have HB := n2_;clear n0_ n1_ n2_;(try clear hb);(try clear hb2);(try clear hk);(try clear hi))|((with_reducible refine gate_callee (f := 15) rfl ?_);refine goesL_ (some 89) rfl rfl Try.func15 q9_ rfl #[.string (strOfNums y294)] rfl q0_ ?_;(with_reducible refine (snappy_Pack.calls k1 (strOfNums y294) t299 t300 _ A27.out).mono ?_);rintro e w39 ⟨v301,rfl,ho0,hb⟩;refine ⟨_,rfl,?_⟩;have n0_ := Aside0.mk (Kd.R_below q46_ hb);have n1_ := Aside0.mk (Kd.R_below q63_ hb);have n2_ := Aside0.mk (Kd.R_lower ho0 (below_size (bl_)));have n3_ := Aside0.mk (below_step (bl_) hb);clear HO_55;clear HO296;clear HB;have HO_55 := n0_;have HO296 := n1_;have HO302 := n2_;have HB := n3_;clear n0_ n1_ n2_ n3_;(try clear hb);(try clear hb2);(try clear hk);(try clear hi);(try clear ho0))|((with_reducible refine gate_dst (N := 95) rfl ?_);(try (refine gate_guard (by rfl) ?_;dsimp only));refine Kd.R_lit k35 _ 35 ?hg (N := 95) ?hd (xs := ([(⟨false,strOfNums y294,0,0⟩ : S35)] : List (S35))) (inner := [.bool false,.string (strOfNums y294),.int .i64 0,.int .i64 0]) (ok := fun _=>True) (okp := fun _=>True) ?hr ?hp (fun _ hk=>hk) trivial (Below.refl _ _) (Nat.le_refl _) (by simp) ?_;(case hd=>rfl);(case hg=>rfl);(case hr=>first|(go_simp;done)|(go_simp;rfl)|(go_simp;simp [my_u8w];done));(case hp=>exact (Reps.c4 (show Kd.M k35 _ _ _ (⟨false,strOfNums y294,0,0⟩ : S35) [.bool false,.string (strOfNums y294),.int .i64 0,.int .i64 0] from (k35_mkM _ _ _ (⟨false,strOfNums y294,0,0⟩ : S35) )) (Reps.none _ _)));intro v304 w40 ho41 hb hg_ hnew_;clear hg_ hnew_;(first|rw [← Ny303.out] at ho41|(simp only [Int.reduceToNat] at ho41;rw [← Ny303.out] at ho41));have n0_ := Aside0.mk (Kd.R_below q46_ hb);have n1_ := Aside0.mk (Kd.R_below q63_ hb);have n2_ := Aside0.mk (Kd.R_elder' q58_ (Kd.R_base ho41) hb);have n3_ := Aside0.mk (Kd.R_lower (Kd.R_new' ho41 (Kd.R_lt q58_)) (below_size (bl_)));have n4_ := Aside0.mk (below_step (bl_) hb);clear HO_55;clear HO296;clear HO302;clear HB;have HO_55 := n0_;have HO296 := n1_;have HO302 := n2_;have HO305 := n3_;have HB := n4_;clear n0_ n1_ n2_ n3_ n4_;clear hb ho41;obtain ⟨Ao42,co42,eo42⟩ := Kd.R_slice HO305.out;subst eo42)|((with_reducible refine gate_callee (f := 16) rfl ?_);refine goesL_ (some 96) rfl rfl Try.func16 q9_ rfl #[.slice Ao42 y303.length co42] rfl q0_ ?_;(with_reducible refine (snappy_Write.calls k1 _ _ y303 t306 t307 _ ?side1 ?side2 A28.out).mono ?_);(case side1=>repeat (first|exact (Kd.R_reads' HO305.out).2.2|(with_reducible refine Kd.C_alloc ?_ _)|(with_reducible refine Kd.C_drewN ?_ _)|(with_reducible refine Kd.C_drew ?_)));(case side2=>exact (Kd.R_reads' HO305.out).2.1);rintro e w43 ⟨rfl,hb⟩;refine ⟨_,rfl,?_⟩;have n0_ := Aside0.mk (Kd.R_below q46_ hb);have n1_ := Aside0.mk (Kd.R_below q63_ hb);have n2_ := Aside0.mk (Kd.R_below q58_ hb);have n3_ := Aside0.mk (Kd.R_below q66_ hb);have n4_ := Aside0.mk (below_step (bl_) hb);clear HO_55;clear HO296;clear HO302;clear HO305;clear HB;have HO_55 := n0_;have HO296 := n1_;have HO302 := n2_;have HO305 := n3_;have HB := n4_;clear n0_ n1_ n2_ n3_ n4_;(try clear hb);(try clear hb2);(try clear hk);(try clear hi))|((with_reducible refine gate_dst (N := 104) rfl ?_);(try (refine gate_guard (by rfl) ?_;dsimp only));refine Kd.R_lit k35 _ 35 ?hg (N := 104) ?hd (xs := ([(⟨false,(strOfNums y294).extract 1 (strOfNums y294).size,0,0⟩ : S35),(⟨false,(⟨#[97]⟩ : ByteArray),0,0⟩ : S35)] : List (S35))) (inner := [.bool false,.string ((strOfNums y294).extract 1 (strOfNums y294).size),.int .i64 0,.int .i64 0,.bool false,.string (⟨#[97]⟩ : ByteArray),.int .i64 0,.int .i64 0]) (ok := fun _=>True) (okp := fun _=>True) ?hr ?hp (fun _ hk=>hk) trivial (Below.refl _ _) (Nat.le_refl _) (by simp) ?_;(case hd=>rfl);(case hg=>rfl);(case hr=>first|(go_simp;done)|(go_simp;rfl)|(go_simp;simp [my_u8w];done));(case hp=>exact (Reps.c4 (show Kd.M k35 _ _ _ (⟨false,(strOfNums y294).extract 1 (strOfNums y294).size,0,0⟩ : S35) [.bool false,.string ((strOfNums y294).extract 1 (strOfNums y294).size),.int .i64 0,.int .i64 0] from (k35_mkM _ _ _ (⟨false,(strOfNums y294).extract 1 (strOfNums y294).size,0,0⟩ : S35) )) (Reps.c4 (show Kd.M k35 _ _ _ (⟨false,(⟨#[97]⟩ : ByteArray),0,0⟩ : S35) [.bool false,.string (⟨#[97]⟩ : ByteArray),.int .i64 0,.int .i64 0] from (k35_mkM _ _ _ (⟨false,(⟨#[97]⟩ : ByteArray),0,0⟩ : S35) )) (Reps.none _ _))));intro v309 w44 ho45 hb hg_ hnew_;clear hg_ hnew_;(first|rw [← Ny308.out] at ho45|(simp only [Int.reduceToNat] at ho45;rw [← Ny308.out] at ho45));have n0_ := Aside0.mk (Kd.R_below q46_ hb);have n1_ := Aside0.mk (Kd.R_below q63_ hb);have n2_ := Aside0.mk (Kd.R_elder' q58_ (Kd.R_base ho45) hb);have n3_ := Aside0.mk (Kd.R_elder' q66_ (Kd.R_base ho45) hb);have n4_ := Aside0.mk (Kd.R_lower (Kd.R_new' (Kd.R_new' ho45 (Kd.R_lt q58_)) (Kd.R_lt q66_)) (below_size (bl_)));have n5_ := Aside0.mk (below_step (bl_) hb);clear HO_55;clear HO296;clear HO302;clear HO305;clear HB;have HO_55 := n0_;have HO296 := n1_;have HO302 := n2_;have HO305 := n3_;have HO310 := n4_;have HB := n5_;clear n0_ n1_ n2_ n3_ n4_ n5_;clear hb ho45;obtain ⟨Ao46,co46,eo46⟩ := Kd.R_slice HO310.out;subst eo46)|((with_reducible refine gate_callee (f := 16) rfl ?_);refine goesL_ (some 105) rfl rfl Try.func16 q9_ rfl #[.slice Ao46 y308.length co46] rfl q0_ ?_;(with_reducible refine (snappy_Write.calls k1 _ _ y308 t311 t312 _ ?side1 ?side2 A30.out).mono ?_);(case side1=>repeat (first|exact (Kd.R_reads' HO310.out).2.2|(with_reducible refine Kd.C_alloc ?_ _)|(with_reducible refine Kd.C_drewN ?_ _)|(with_reducible refine Kd.C_drew ?_)));(case side2=>exact (Kd.R_reads' HO310.out).2.1);rintro e w47 ⟨rfl,hb⟩;refine ⟨_,rfl,?_⟩;have n0_ := Aside0.mk (Kd.R_below q46_ hb);have n1_ := Aside0.mk (Kd.R_below q63_ hb);have n2_ := Aside0.mk (Kd.R_below q58_ hb);have n3_ := Aside0.mk (Kd.R_below q66_ hb);have n4_ := Aside0.mk (Kd.R_below q86_ hb);have n5_ := Aside0.mk (below_step (bl_) hb);clear HO_55;clear HO296;clear HO302;clear HO305;clear HO310;clear HB;have HO_55 := n0_;have HO296 := n1_;have HO302 := n2_;have HO305 := n3_;have HO310 := n4_;have HB := n5_;clear n0_ n1_ n2_ n3_ n4_ n5_;(try clear hb);(try clear hb2);(try clear hk);(try clear hi))|((with_reducible refine gate_dst (N := 112) rfl ?_);(try (refine gate_guard (by rfl) ?_;dsimp only));refine Kd.R_lit k35 _ 35 ?hg (N := 112) ?hd (xs := ([(⟨false,(strOfNums y294).extract 1 (strOfNums y294).size,0,0⟩ : S35)] : List (S35))) (inner := [.bool false,.string ((strOfNums y294).extract 1 (strOfNums y294).size),.int .i64 0,.int .i64 0]) (ok := fun _=>True) (okp := fun _=>True) ?hr ?hp (fun _ hk=>hk) trivial (Below.refl _ _) (Nat.le_refl _) (by simp) ?_;(case hd=>rfl);(case hg=>rfl);(case hr=>first|(go_simp;done)|(go_simp;rfl)|(go_simp;simp [my_u8w];done));(case hp=>exact (Reps.c4 (show Kd.M k35 _ _ _ (⟨false,(strOfNums y294).extract 1 (strOfNums y294).size,0,0⟩ : S35) [.bool false,.string ((strOfNums y294).extract 1 (strOfNums y294).size),.int .i64 0,.int .i64 0] from (k35_mkM _ _ _ (⟨false,(strOfNums y294).extract 1 (strOfNums y294).size,0,0⟩ : S35) )) (Reps.none _ _)));intro v314 w48 ho49 hb hg_ hnew_;clear hg_ hnew_;(first|rw [← Ny313.out] at ho49|(simp only [Int.reduceToNat] at ho49;rw [← Ny313.out] at ho49));have n0_ := Aside0.mk (Kd.R_below q46_ hb);have n1_ := Aside0.mk (Kd.R_below q63_ hb);have n2_ := Aside0.mk (Kd.R_elder' q58_ (Kd.R_base ho49) hb);have n3_ := Aside0.mk (Kd.R_elder' q66_ (Kd.R_base ho49) hb);have n4_ := Aside0.mk (Kd.R_elder' q86_ (Kd.R_base ho49) hb);have n5_ := Aside0.mk (Kd.R_lower (Kd.R_new' (Kd.R_new' (Kd.R_new' ho49 (Kd.R_lt q58_)) (Kd.R_lt q66_)) (Kd.R_lt q86_)) (below_size (bl_)));have n6_ := Aside0.mk (below_step (bl_) hb);clear HO_55;clear HO296;clear HO302;clear HO305;clear HO310;clear HB;have HO_55 := n0_;have HO296 := n1_;have HO302 := n2_;have HO305 := n3_;have HO310 := n4_;have HO315 := n5_;have HB := n6_;clear n0_ n1_ n2_ n3_ n4_ n5_ n6_;clear hb ho49;obtain ⟨Ao50,co50,eo50⟩ := Kd.R_slice HO315.out;subst eo50)|((with_reducible refine gate_callee (f := 16) rfl ?_);refine goesL_ (some 113) rfl rfl Try.func16 q9_ rfl #[.slice Ao50 y313.length co50] rfl q0_ ?_;(with_reducible refine (snappy_Write.calls k1 _ _ y313 t316 t317 _ ?side1 ?side2 A32.out).mono ?_);(case side1=>repeat (first|exact (Kd.R_reads' HO315.out).2.2|(with_reducible refine Kd.C_alloc ?_ _)|(with_reducible refine Kd.C_drewN ?_ _)|(with_reducible refine Kd.C_drew ?_)));(case side2=>exact (Kd.R_reads' HO315.out).2.1);rintro e w51 ⟨rfl,hb⟩;refine ⟨_,rfl,?_⟩;have n0_ := Aside0.mk (Kd.R_below q46_ hb);have n1_ := Aside0.mk (Kd.R_below q63_ hb);have n2_ := Aside0.mk (Kd.R_below q58_ hb);have n3_ := Aside0.mk (Kd.R_below q66_ hb);have n4_ := Aside0.mk (Kd.R_below q86_ hb);have n5_ := Aside0.mk (Kd.R_below (by (with_reducible repeat (first|apply Kd.R_alloc|apply Kd.R_drewN|apply Kd.R_drew));exact HO315.out) hb);have n6_ := Aside0.mk (below_step (bl_) hb);clear HO_55;clear HO296;clear HO302;clear HO305;clear HO310;clear HO315;clear HB;have HO_55 := n0_;have HO296 := n1_;have HO302 := n2_;have HO305 := n3_;have HO310 := n4_;have HO315 := n5_;have HB := n6_;clear n0_ n1_ n2_ n3_ n4_ n5_ n6_;(try clear hb);(try clear hb2);(try clear hk);(try clear hi))|((with_reducible refine gate_callee (f := 13) rfl ?_);refine goesL_ (some 118) rfl rfl Try.func13 q9_ rfl #[.string t316,.int .i64 65536] rfl q0_ ?_;(with_reducible refine (snappy_Decode.calls k1 t316 65536 t318 t319 _ A33.out).mono ?_);rintro e w52 ⟨rfl,hb⟩;refine ⟨_,rfl,?_⟩;have n0_ := Aside0.mk (Kd.R_below q46_ hb);have n1_ := Aside0.mk (Kd.R_below q63_ hb);have n2_ := Aside0.mk (Kd.R_below q58_ hb);have n3_ := Aside0.mk (Kd.R_below q66_ hb);have n4_ := Aside0.mk (Kd.R_below q86_ hb);have n5_ := Aside0.mk (Kd.R_below (by (with_reducible repeat (first|apply Kd.R_alloc|apply Kd.R_drewN|apply Kd.R_drew));exact HO315.out) hb);have n6_ := Aside0.mk (below_step (bl_) hb);clear HO_55;clear HO296;clear HO302;clear HO305;clear HO310;clear HO315;clear HB;have HO_55 := n0_;have HO296 := n1_;have HO302 := n2_;have HO305 := n3_;have HO310 := n4_;have HO315 := n5_;have HB := n6_;clear n0_ n1_ n2_ n3_ n4_ n5_ n6_;(try clear hb);(try clear hb2);(try clear hk);(try clear hi)))
       (try simp only [Act.put,List.setIfInBounds_toArray,List.set_cons_zero,List.set_cons_succ])
       go_cut [153] (fun v153 wc=>∃ (kq : Nat) (x153_33 : Bool),v153 = .bool x153_33 ∧ Aside0 (batonlaw03_SnappyNames.j1 kq x153_33 = some r) ∧ Aside0 (kq ≤ k1) ∧ Aside0 (Below w.heap.size w wc))
       case first =>
        have H := HC34.out
        clear HC34
        by_cases c53 : t298 = 40
        ·rw [if_pos c53] at H
         have c53b0 : (t298 == 40) = true := beq_iff_eq.mpr c53
         have c53b1 : (t298 != 40) = false := bne_eq_false_iff_eq.mpr c53
         clear c53
         (first|rw [c53b0]|(simp only [i64_w,i32_w];rw [c53b0])|skip)
         by_cases c54 : t300 = 40
         ·rw [if_pos c54] at H
          have c54b0 : (t300 == 40) = true := beq_iff_eq.mpr c54
          have c54b1 : (t300 != 40) = false := bne_eq_false_iff_eq.mpr c54
          clear c54
          by_cases c55 : t307 = 4
          ·rw [if_pos c55] at H
           have c55b0 : (t307 == 4) = true := beq_iff_eq.mpr c55
           have c55b1 : (t307 != 4) = false := bne_eq_false_iff_eq.mpr c55
           clear c55
           by_cases c56 : t312 = 40
           ·rw [if_pos c56] at H
            have c56b0 : (t312 == 40) = true := beq_iff_eq.mpr c56
            have c56b1 : (t312 != 40) = false := bne_eq_false_iff_eq.mpr c56
            clear c56
            by_cases c57 : t317 = 0
            ·rw [if_pos c57] at H
             have c57b0 : (t317 == 0) = true := beq_iff_eq.mpr c57
             have c57b1 : (t317 != 0) = false := bne_eq_false_iff_eq.mpr c57
             clear c57
             have c58b0 := eq_true (of_decide_eq_true q3_ : 1 ≤ ((strOfNums y294).size : Int))
             by_cases c59 : t318.toList = ((strOfNums y294).extract 1 (strOfNums y294).size).toList
             ·rw [if_pos c59] at H
              have c59b0 : (t318.toList == ((strOfNums y294).extract 1 (strOfNums y294).size).toList) = true := beq_iff_eq.mpr c59
              have c59b1 : (t318.toList != ((strOfNums y294).extract 1 (strOfNums y294).size).toList) = false := bne_eq_false_iff_eq.mpr c59
              clear c59
              by_cases c60 : t319 = 0
              ·rw [if_pos c60] at H
               have c60b0 : (t319 == 0) = true := beq_iff_eq.mpr c60
               have c60b1 : (t319 != 0) = false := bne_eq_false_iff_eq.mpr c60
               clear c60
               have H' := Aside0.mk H
               clear H
               go_wp2
               go_meet
               case rel=>exact ⟨_,(((t316.size : Int) != 65542)),q4_,H',⟨q71_⟩,⟨bl_⟩⟩
              ·rw [if_neg c60] at H
               have c60b0 : (t319 == 0) = false := beq_eq_false_iff_ne.mpr c60
               have c60b1 : (t319 != 0) = true := bne_iff_ne.mpr c60
               have H' := Aside0.mk H
               clear H
               go_wp2
               go_meet
               case rel=>exact ⟨_,(true),q4_,H',⟨q71_⟩,⟨bl_⟩⟩
             ·rw [if_neg c59] at H
              have c59b0 : (t318.toList == ((strOfNums y294).extract 1 (strOfNums y294).size).toList) = false := beq_eq_false_iff_ne.mpr c59
              have c59b1 : (t318.toList != ((strOfNums y294).extract 1 (strOfNums y294).size).toList) = true := bne_iff_ne.mpr c59
              have H' := Aside0.mk H
              clear H
              go_wp2
              go_meet
              case rel=>exact ⟨_,(true),q4_,H',⟨q71_⟩,⟨bl_⟩⟩
            ·rw [if_neg c57] at H
             have c57b0 : (t317 == 0) = false := beq_eq_false_iff_ne.mpr c57
             have c57b1 : (t317 != 0) = true := bne_iff_ne.mpr c57
             have H' := Aside0.mk H
             clear H
             go_wp2
             go_meet
             case rel=>exact ⟨_,(true),q4_,H',⟨q71_⟩,⟨bl_⟩⟩
           ·rw [if_neg c56] at H
            have c56b0 : (t312 == 40) = false := beq_eq_false_iff_ne.mpr c56
            have c56b1 : (t312 != 40) = true := bne_iff_ne.mpr c56
            have H' := Aside0.mk H
            clear H
            go_wp2
            go_meet
            case rel=>exact ⟨_,(true),q4_,H',⟨q71_⟩,⟨bl_⟩⟩
          ·rw [if_neg c55] at H
           have c55b0 : (t307 == 4) = false := beq_eq_false_iff_ne.mpr c55
           have c55b1 : (t307 != 4) = true := bne_iff_ne.mpr c55
           have H' := Aside0.mk H
           clear H
           go_wp2
           go_meet
           case rel=>exact ⟨_,(true),q4_,H',⟨q71_⟩,⟨bl_⟩⟩
         ·rw [if_neg c54] at H
          have c54b0 : (t300 == 40) = false := beq_eq_false_iff_ne.mpr c54
          have c54b1 : (t300 != 40) = true := bne_iff_ne.mpr c54
          have H' := Aside0.mk H
          clear H
          go_wp2
          go_meet
          case rel=>exact ⟨_,(true),q4_,H',⟨q71_⟩,⟨bl_⟩⟩
        ·rw [if_neg c53] at H
         have c53b0 : (t298 == 40) = false := beq_eq_false_iff_ne.mpr c53
         have c53b1 : (t298 != 40) = true := bne_iff_ne.mpr c53
         (first|rw [c53b0]|(simp only [i64_w,i32_w];rw [c53b0])|skip)
         have H' := Aside0.mk H
         clear H
         go_wp2
         go_meet
         case rel=>exact ⟨_,(true),q4_,H',⟨q71_⟩,⟨bl_⟩⟩
       case rest =>
        clear HC34
        try clear c1
        try clear c2
        try clear p2
        try clear q2
        try clear hx2
        try clear c3
        try clear hcv3
        try clear c4
        try clear c5
        try clear c6
        try clear p6
        try clear c7
        try clear c7b0
        try clear c8
        try clear c8b0
        try clear c9
        try clear c9b0
        try clear c11
        try clear c11b0
        try clear c11b1
        try clear c12
        try clear c12b0
        try clear c12b1
        try clear c13
        try clear c14
        try clear c15
        try clear c16
        try clear c25
        try clear c25b0
        try clear c25b1
        try clear c29
        try clear c29b0
        try clear c29b1
        try clear p29
        try clear q29
        try clear hx29
        try clear c31
        try clear c31b0
        try clear hcv37
        try clear c53
        try clear c53b0
        try clear c53b1
        try clear c54
        try clear c54b0
        try clear c54b1
        try clear c55
        try clear c55b0
        try clear c55b1
        try clear c56
        try clear c56b0
        try clear c56b1
        try clear c57
        try clear c57b0
        try clear c57b1
        try clear c58
        try clear c58b0
        try clear c59
        try clear c59b0
        try clear c59b1
        try clear c60
        try clear c60b0
        try clear c60b1
        try clear hcz14_0
        try clear hcz14_1
        try clear hcz14_2
        try clear hcz14_3
        try clear hcz16_0
        try clear hcz16_1
        try clear hcz16_2
        try clear hcz16_3
        try clear hcz18_0
        try clear hcz18_1
        try clear hcz18_2
        try clear hcz18_3
        try clear hcz20_0
        try clear hcz20_1
        try clear hcz20_2
        try clear hcz20_3
        try clear hcz22_0
        try clear hcz22_1
        try clear hcz22_2
        try clear hcz22_3
        try clear hcz24_0
        try clear hcz24_1
        try clear hcz24_2
        try clear hcz24_3
        try clear hfz14_0
        try clear hfz14_1
        try clear hfz14_2
        try clear hfz14_3
        try clear hfz16_0
        try clear hfz16_1
        try clear hfz16_2
        try clear hfz16_3
        try clear hfz18_0
        try clear hfz18_1
        try clear hfz18_2
        try clear hfz18_3
        try clear hfz20_0
        try clear hfz20_1
        try clear hfz20_2
        try clear hfz20_3
        try clear hfz22_0
        try clear hfz22_1
        try clear hfz22_2
        try clear hfz22_3
        try clear hfz24_0
        try clear hfz24_1
        try clear hfz24_2
        try clear hfz24_3
        try clear hx290_0
        try clear hx290_1
        try clear hx290_2
        try clear hx290_3
        try clear p2
        try clear p290
        try clear q290
        obtain ⟨kq,x153_33,rfl,HA,HJ33,HB⟩ := hcut
        cases kq with
        | zero=>exact absurd HA.out (by simp [batonlaw03_SnappyNames.j1])
        | succ kj33 =>
         have H := HA.out
         clear HA
         simp only [batonlaw03_SnappyNames.j1] at H
         by_cases c61 : x153_33 = true
         ·subst c61
          have H1 : (some false) = some r := by rw [if_pos rfl] at H;exact H
          clear H
          have H := H1
          clear H1
          obtain rfl := Option.some.inj H
          go_wp2
          go_ret
          exact ⟨q1_,bl_⟩
         ·replace c61 := Bool.eq_false_iff.mpr c61
          subst c61
          have H1 : ((some (([(⟨false,(⟨#[]⟩ : ByteArray),0,0⟩ : S35),(⟨false,(⟨#[97]⟩ : ByteArray),1,0⟩ : S35),(⟨false,(⟨#[97]⟩ : ByteArray),0,1⟩ : S35),(⟨true,(⟨#[]⟩ : ByteArray),1,0⟩ : S35),(⟨true,(⟨#[]⟩ : ByteArray),0,1⟩ : S35),(⟨true,(⟨#[]⟩ : ByteArray),1,65⟩ : S35),(⟨true,(⟨#[]⟩ : ByteArray),4294967296,1⟩ : S35),(⟨true,(⟨#[97]⟩ : ByteArray),1,1⟩ : S35),(⟨true,(⟨#[]⟩ : ByteArray),6,1⟩ : S35),(⟨true,(⟨#[]⟩ : ByteArray),(-1),4⟩ : S35)] : List (S35)) : List (S35))).bind fun y320=>(batonlaw03_SnappyNames.l1 kj33 y320 (y320.length : Int) 0)) = some r := by rw [if_neg (show ¬ (false = true) by decide)] at H;exact H
          clear H
          have H := H1
          clear H1
          obtain ⟨y320,hy320⟩ : ∃ y_ : List (S35),y_ = (([(⟨false,(⟨#[]⟩ : ByteArray),0,0⟩ : S35),(⟨false,(⟨#[97]⟩ : ByteArray),1,0⟩ : S35),(⟨false,(⟨#[97]⟩ : ByteArray),0,1⟩ : S35),(⟨true,(⟨#[]⟩ : ByteArray),1,0⟩ : S35),(⟨true,(⟨#[]⟩ : ByteArray),0,1⟩ : S35),(⟨true,(⟨#[]⟩ : ByteArray),1,65⟩ : S35),(⟨true,(⟨#[]⟩ : ByteArray),4294967296,1⟩ : S35),(⟨true,(⟨#[97]⟩ : ByteArray),1,1⟩ : S35),(⟨true,(⟨#[]⟩ : ByteArray),6,1⟩ : S35),(⟨true,(⟨#[]⟩ : ByteArray),(-1),4⟩ : S35)] : List (S35))) := ⟨_,rfl⟩
          replace H : (batonlaw03_SnappyNames.l1 kj33 y320 (y320.length : Int) 0) = some r := by first|(rw [hy320];with_reducible exact H)|(have H2_ := (Option.bind_some _ _).symm.trans H;rw [hy320];with_reducible exact H2_)|(have H2_ := (Option.bind_some _ _).symm.trans H;with_reducible exact H2_)|with_reducible exact H|(rw [hy320];exact H)|exact H
          have Ny320 := Aside0.mk hy320
          clear hy320
          have H' := Aside0.mk H
          clear H
          go_wp2_with (first|((with_reducible refine gate_dst (N := 164) rfl ?_);(try (refine gate_guard (by rfl) ?_;dsimp only));refine Kd.R_lit k35 _ 35 ?hg (N := 164) ?hd (xs := ([(⟨false,(⟨#[]⟩ : ByteArray),0,0⟩ : S35),(⟨false,(⟨#[97]⟩ : ByteArray),1,0⟩ : S35),(⟨false,(⟨#[97]⟩ : ByteArray),0,1⟩ : S35),(⟨true,(⟨#[]⟩ : ByteArray),1,0⟩ : S35),(⟨true,(⟨#[]⟩ : ByteArray),0,1⟩ : S35),(⟨true,(⟨#[]⟩ : ByteArray),1,65⟩ : S35),(⟨true,(⟨#[]⟩ : ByteArray),4294967296,1⟩ : S35),(⟨true,(⟨#[97]⟩ : ByteArray),1,1⟩ : S35),(⟨true,(⟨#[]⟩ : ByteArray),6,1⟩ : S35),(⟨true,(⟨#[]⟩ : ByteArray),(-1),4⟩ : S35)] : List (S35))) (inner := [.bool false,.string (⟨#[]⟩ : ByteArray),.int .i64 0,.int .i64 0,.bool false,.string (⟨#[97]⟩ : ByteArray),.int .i64 1,.int .i64 0,.bool false,.string (⟨#[97]⟩ : ByteArray),.int .i64 0,.int .i64 1,.bool true,.string (⟨#[]⟩ : ByteArray),.int .i64 1,.int .i64 0,.bool true,.string (⟨#[]⟩ : ByteArray),.int .i64 0,.int .i64 1,.bool true,.string (⟨#[]⟩ : ByteArray),.int .i64 1,.int .i64 65,.bool true,.string (⟨#[]⟩ : ByteArray),.int .i64 4294967296,.int .i64 1,.bool true,.string (⟨#[97]⟩ : ByteArray),.int .i64 1,.int .i64 1,.bool true,.string (⟨#[]⟩ : ByteArray),.int .i64 6,.int .i64 1,.bool true,.string (⟨#[]⟩ : ByteArray),.int .i64 (-1),.int .i64 4]) (ok := fun _=>True) (okp := fun _=>True) ?hr ?hp (fun _ hk=>hk) trivial (Below.refl _ _) (Nat.le_refl _) (by simp) ?_;(case hd=>rfl);(case hg=>rfl);(case hr=>first|(go_simp;done)|(go_simp;rfl)|(go_simp;simp [my_u8w];done));(case hp=>exact (Reps.c4 (show Kd.M k35 _ _ _ (⟨false,(⟨#[]⟩ : ByteArray),0,0⟩ : S35) [.bool false,.string (⟨#[]⟩ : ByteArray),.int .i64 0,.int .i64 0] from (k35_mkM _ _ _ (⟨false,(⟨#[]⟩ : ByteArray),0,0⟩ : S35) )) (Reps.c4 (show Kd.M k35 _ _ _ (⟨false,(⟨#[97]⟩ : ByteArray),1,0⟩ : S35) [.bool false,.string (⟨#[97]⟩ : ByteArray),.int .i64 1,.int .i64 0] from (k35_mkM _ _ _ (⟨false,(⟨#[97]⟩ : ByteArray),1,0⟩ : S35) )) (Reps.c4 (show Kd.M k35 _ _ _ (⟨false,(⟨#[97]⟩ : ByteArray),0,1⟩ : S35) [.bool false,.string (⟨#[97]⟩ : ByteArray),.int .i64 0,.int .i64 1] from (k35_mkM _ _ _ (⟨false,(⟨#[97]⟩ : ByteArray),0,1⟩ : S35) )) (Reps.c4 (show Kd.M k35 _ _ _ (⟨true,(⟨#[]⟩ : ByteArray),1,0⟩ : S35) [.bool true,.string (⟨#[]⟩ : ByteArray),.int .i64 1,.int .i64 0] from (k35_mkM _ _ _ (⟨true,(⟨#[]⟩ : ByteArray),1,0⟩ : S35) )) (Reps.c4 (show Kd.M k35 _ _ _ (⟨true,(⟨#[]⟩ : ByteArray),0,1⟩ : S35) [.bool true,.string (⟨#[]⟩ : ByteArray),.int .i64 0,.int .i64 1] from (k35_mkM _ _ _ (⟨true,(⟨#[]⟩ : ByteArray),0,1⟩ : S35) )) (Reps.c4 (show Kd.M k35 _ _ _ (⟨true,(⟨#[]⟩ : ByteArray),1,65⟩ : S35) [.bool true,.string (⟨#[]⟩ : ByteArray),.int .i64 1,.int .i64 65] from (k35_mkM _ _ _ (⟨true,(⟨#[]⟩ : ByteArray),1,65⟩ : S35) )) (Reps.c4 (show Kd.M k35 _ _ _ (⟨true,(⟨#[]⟩ : ByteArray),4294967296,1⟩ : S35) [.bool true,.string (⟨#[]⟩ : ByteArray),.int .i64 4294967296,.int .i64 1] from (k35_mkM _ _ _ (⟨true,(⟨#[]⟩ : ByteArray),4294967296,1⟩ : S35) )) (Reps.c4 (show Kd.M k35 _ _ _ (⟨true,(⟨#[97]⟩ : ByteArray),1,1⟩ : S35) [.bool true,.string (⟨#[97]⟩ : ByteArray),.int .i64 1,.int .i64 1] from (k35_mkM _ _ _ (⟨true,(⟨#[97]⟩ : ByteArray),1,1⟩ : S35) )) (Reps.c4 (show Kd.M k35 _ _ _ (⟨true,(⟨#[]⟩ : ByteArray),6,1⟩ : S35) [.bool true,.string (⟨#[]⟩ : ByteArray),.int .i64 6,.int .i64 1] from (k35_mkM _ _ _ (⟨true,(⟨#[]⟩ : ByteArray),6,1⟩ : S35) )) (Reps.c4 (show Kd.M k35 _ _ _ (⟨true,(⟨#[]⟩ : ByteArray),(-1),4⟩ : S35) [.bool true,.string (⟨#[]⟩ : ByteArray),.int .i64 (-1),.int .i64 4] from (k35_mkM _ _ _ (⟨true,(⟨#[]⟩ : ByteArray),(-1),4⟩ : S35) )) (Reps.none _ _))))))))))));intro v321 w62 ho63 hb hg_ hnew_;clear hg_ hnew_;(first|rw [← Ny320.out] at ho63|(simp only [Int.reduceToNat] at ho63;rw [← Ny320.out] at ho63));have n0_ := Aside0.mk (Kd.R_lower ho63 (below_size (bl_)));have n1_ := Aside0.mk (below_step (bl_) hb);clear HB;have HO322 := n0_;have HB := n1_;clear n0_ n1_;clear hb ho63;obtain ⟨Ao64,co64,eo64⟩ := Kd.R_slice HO322.out;subst eo64))
          go_loopg [166] kj33 (fun kq v166 w'=>∃ (x166_3 : Int),v166 = .int .i64 x166_3 ∧ Aside0 (batonlaw03_SnappyNames.l1 kq y320 (y320.length : Int) x166_3 = some r) ∧ Aside0 (kq ≤ kj33) ∧ Aside0 (Kd.R k35 35 w' w.heap.size (fun _=>True) (.slice Ao64 y320.length co64) y320) ∧ Aside0 (Below w.heap.size w w'))
          case atStart=>exact ⟨(0),q4_,H',⟨Nat.le_refl _⟩,⟨by (with_reducible repeat (first|apply Kd.R_alloc|apply Kd.R_drewN|apply Kd.R_drew));exact HO322.out⟩,⟨bl_⟩⟩
          case round =>
           clear H'
           try clear c1
           try clear c2
           try clear p2
           try clear q2
           try clear hx2
           try clear c3
           try clear hcv3
           try clear c4
           try clear c5
           try clear c6
           try clear p6
           try clear c7
           try clear c7b0
           try clear c8
           try clear c8b0
           try clear c9
           try clear c9b0
           try clear c11
           try clear c11b0
           try clear c11b1
           try clear c12
           try clear c12b0
           try clear c12b1
           try clear c13
           try clear c14
           try clear c15
           try clear c16
           try clear c25
           try clear c25b0
           try clear c25b1
           try clear c29
           try clear c29b0
           try clear c29b1
           try clear p29
           try clear q29
           try clear hx29
           try clear c31
           try clear c31b0
           try clear hcv37
           try clear c53
           try clear c53b0
           try clear c53b1
           try clear c54
           try clear c54b0
           try clear c54b1
           try clear c55
           try clear c55b0
           try clear c55b1
           try clear c56
           try clear c56b0
           try clear c56b1
           try clear c57
           try clear c57b0
           try clear c57b1
           try clear c58
           try clear c58b0
           try clear c59
           try clear c59b0
           try clear c59b1
           try clear c60
           try clear c60b0
           try clear c60b1
           try clear c61
           try clear p64
           try clear hcz14_0
           try clear hcz14_1
           try clear hcz14_2
           try clear hcz14_3
           try clear hcz16_0
           try clear hcz16_1
           try clear hcz16_2
           try clear hcz16_3
           try clear hcz18_0
           try clear hcz18_1
           try clear hcz18_2
           try clear hcz18_3
           try clear hcz20_0
           try clear hcz20_1
           try clear hcz20_2
           try clear hcz20_3
           try clear hcz22_0
           try clear hcz22_1
           try clear hcz22_2
           try clear hcz22_3
           try clear hcz24_0
           try clear hcz24_1
           try clear hcz24_2
           try clear hcz24_3
           try clear hfz14_0
           try clear hfz14_1
           try clear hfz14_2
           try clear hfz14_3
           try clear hfz16_0
           try clear hfz16_1
           try clear hfz16_2
           try clear hfz16_3
           try clear hfz18_0
           try clear hfz18_1
           try clear hfz18_2
           try clear hfz18_3
           try clear hfz20_0
           try clear hfz20_1
           try clear hfz20_2
           try clear hfz20_3
           try clear hfz22_0
           try clear hfz22_1
           try clear hfz22_2
           try clear hfz22_3
           try clear hfz24_0
           try clear hfz24_1
           try clear hfz24_2
           try clear hfz24_3
           try clear hx290_0
           try clear hx290_1
           try clear hx290_2
           try clear hx290_3
           try clear p2
           try clear p29
           try clear p290
           try clear p6
           try clear q2
           try clear q29
           try clear q290
           obtain ⟨x166_3,rfl,HA,HK3,HO_164,HB⟩ := hrel
           cases gk with
           | zero=>exact absurd HA.out (by simp [batonlaw03_SnappyNames.l1])
           | succ k3 =>
            have H := HA.out
            clear HA
            simp only [batonlaw03_SnappyNames.l1] at H
            by_cases c65 : x166_3 < (y320.length : Int)
            ·rw [if_pos c65] at H
             have c65b0 : decide (x166_3 < (y320.length : Int)) = true := decide_eq_true c65
             clear c65
             by_cases c66 : 0 ≤ x166_3
             ·rw [if_pos c66] at H
              have c66b0 : decide (0 ≤ x166_3) = true := decide_eq_true c66
              clear c66
              by_cases c67 : x166_3 < (y320.length : Int)
              ·rw [if_pos c67] at H
               have c67b0 : decide (x166_3 < (y320.length : Int)) = true := decide_eq_true c67
               clear c67
               obtain ⟨y325,hy325⟩ : ∃ y_ : List (S35),y_ = (([(⟨false,(⟨#[97,98,99,100,101]⟩ : ByteArray),0,0⟩ : S35),(⟨(rd_T35 y320 x166_3).f0,(rd_T35 y320 x166_3).f1,(rd_T35 y320 x166_3).f2,(rd_T35 y320 x166_3).f3⟩ : S35)] : List (S35))) := ⟨_,rfl⟩
               replace H : ((snappy_Expand.f k3 y325 99).bind fun bt328=>(if bt328.2 = 4 then (batonlaw03_SnappyNames.l1 k3 y320 (y320.length : Int) (wrap64 (x166_3 + 1))) else (some false))) = some r := by first|(rw [hy325];with_reducible exact H)|(have H2_ := (Option.bind_some _ _).symm.trans H;rw [hy325];with_reducible exact H2_)|(have H2_ := (Option.bind_some _ _).symm.trans H;with_reducible exact H2_)|with_reducible exact H|(rw [hy325];exact H)|exact H
               have Ny325 := Aside0.mk hy325
               clear hy325
               replace H := Option.bind_eq_some_iff.mp H
               obtain ⟨⟨t328,t329⟩,A680,H⟩ := H
               replace H : (if t329 = 4 then (batonlaw03_SnappyNames.l1 k3 y320 (y320.length : Int) (wrap64 (x166_3 + 1))) else (some false)) = some r := H
               have A68 := Aside0.mk A680
               clear A680
               by_cases c69 : t329 = 4
               ·rw [if_pos c69] at H
                have c69b0 : (t329 == 4) = true := beq_iff_eq.mpr c69
                have c69b1 : (t329 != 4) = false := bne_eq_false_iff_eq.mpr c69
                clear c69
                have H' := Aside0.mk H
                clear H
                have p323 : 0 ≤ (x166_3 : Int) := of_decide_eq_true q3_
                have q323 : x166_3 < (y320.length : Int) := of_decide_eq_true q3_
                obtain ⟨ad323,e323,hx323_0,hx323_1,hx323_2,hx323_3⟩ := at_T35 (Kd.R_reads' HO_164.out).2.2 x166_3 p323 q323
                cases e323
                replace p323 := eq_true p323
                replace q323 := eq_true q323
                go_wp2_with (first|((with_reducible refine gate_dst (N := 19) rfl ?_);(try (refine gate_guard (by rfl) ?_;dsimp only));refine box_event ?hg (N := 19) ?hd (cs := #[.bool false,.string (⟨#[]⟩ : ByteArray),.int .i64 0,.int .i64 0]) (t := 35) ?hr ?_;(case hd=>rfl);(case hg=>rfl);(case hr=>first|(go_simp;done)|(go_simp;rfl)|(go_simp;simp [my_u8w];done));intro gb324 hg w70 hbox hb;have n0_ := Aside0.mk (Kd.R_below (Kd.R_elderB q26_ gb324 (Nat.le_of_eq hg.symm)) hb);have n1_ := Aside0.mk (below_step (bl_) hb);have n2_ := Aside0.mk (hbox);have n3_ := Aside0.mk ((by rw [hg];exact (below_size (bl_)) : w.heap.size ≤ gb324));have n4_ := Aside0.mk ((by rw [hg];exact (below_size (bl_)) : w.heap.size ≤ gb324));clear HO_164;clear HB;have HO_164 := n0_;have HB := n1_;have BK324 := n2_;have GW324 := n3_;have GE324 := n4_;clear n0_ n1_ n2_ n3_ n4_;clear hb hbox hg;have hcz71_0 : w70.cell? ⟨gb324,0,none⟩ = some (.bool false) := (blk_cell BK324.out 0).trans rfl;have hcz71_1 : w70.cell? ⟨gb324,1,none⟩ = some (.string (⟨#[]⟩ : ByteArray)) := (blk_cell BK324.out 1).trans rfl;have hcz71_2 : w70.cell? ⟨gb324,2,none⟩ = some (.int .i64 0) := (blk_cell BK324.out 2).trans rfl;have hcz71_3 : w70.cell? ⟨gb324,3,none⟩ = some (.int .i64 0) := (blk_cell BK324.out 3).trans rfl;have hfz71_0 := blk_frozen BK324.out 0;have hfz71_1 := blk_frozen BK324.out 1;have hfz71_2 := blk_frozen BK324.out 2;have hfz71_3 := blk_frozen BK324.out 3)|((with_reducible refine gate_dst (N := 173) rfl ?_);(try (refine gate_guard (by rfl) ?_;dsimp only));refine Kd.R_lit k35 _ 35 ?hg (N := 173) ?hd (xs := ([(⟨false,(⟨#[97,98,99,100,101]⟩ : ByteArray),0,0⟩ : S35),(⟨(rd_T35 y320 x166_3).f0,(rd_T35 y320 x166_3).f1,(rd_T35 y320 x166_3).f2,(rd_T35 y320 x166_3).f3⟩ : S35)] : List (S35))) (inner := [.bool false,.string (⟨#[97,98,99,100,101]⟩ : ByteArray),.int .i64 0,.int .i64 0,.bool ((rd_T35 y320 x166_3).f0),.string ((rd_T35 y320 x166_3).f1),.int .i64 ((rd_T35 y320 x166_3).f2),.int .i64 ((rd_T35 y320 x166_3).f3)]) (ok := fun _=>True) (okp := fun _=>True) ?hr ?hp (fun _ hk=>hk) trivial (Below.refl _ _) (Nat.le_refl _) (by simp) ?_;(case hd=>rfl);(case hg=>rfl);(case hr=>first|(go_simp;done)|(go_simp;rfl)|(go_simp;simp [my_u8w];done));(case hp=>exact (Reps.c4 (show Kd.M k35 _ _ _ (⟨false,(⟨#[97,98,99,100,101]⟩ : ByteArray),0,0⟩ : S35) [.bool false,.string (⟨#[97,98,99,100,101]⟩ : ByteArray),.int .i64 0,.int .i64 0] from (k35_mkM _ _ _ (⟨false,(⟨#[97,98,99,100,101]⟩ : ByteArray),0,0⟩ : S35) )) (Reps.c4 (show Kd.M k35 _ _ _ (⟨(rd_T35 y320 x166_3).f0,(rd_T35 y320 x166_3).f1,(rd_T35 y320 x166_3).f2,(rd_T35 y320 x166_3).f3⟩ : S35) [.bool ((rd_T35 y320 x166_3).f0),.string ((rd_T35 y320 x166_3).f1),.int .i64 ((rd_T35 y320 x166_3).f2),.int .i64 ((rd_T35 y320 x166_3).f3)] from (k35_mkM _ _ _ (⟨(rd_T35 y320 x166_3).f0,(rd_T35 y320 x166_3).f1,(rd_T35 y320 x166_3).f2,(rd_T35 y320 x166_3).f3⟩ : S35) )) (Reps.none _ _))));intro v326 w72 ho73 hb hg_ hnew_;clear hg_ hnew_;(first|rw [← Ny325.out] at ho73|(simp only [Int.reduceToNat] at ho73;rw [← Ny325.out] at ho73));have n0_ := Aside0.mk (Kd.R_elder' q38_ (Kd.R_base ho73) hb);have n1_ := Aside0.mk (Kd.R_lower (Kd.R_newB (Kd.R_new' ho73 (Kd.R_lt q38_)) (g := gb324) (o := .cells #[.bool ((rd_T35 y320 x166_3).f0),.string ((rd_T35 y320 x166_3).f1),.int .i64 ((rd_T35 y320 x166_3).f2),.int .i64 ((rd_T35 y320 x166_3).f3)] 35 (0,0)) q20_) (below_size q54_));have n2_ := Aside0.mk (blk_below (g := gb324) (o := .cells #[.bool ((rd_T35 y320 x166_3).f0),.string ((rd_T35 y320 x166_3).f1),.int .i64 ((rd_T35 y320 x166_3).f2),.int .i64 ((rd_T35 y320 x166_3).f3)] 35 (0,0)) q20_ hb);have n3_ := Aside0.mk (below_step q54_ hb);clear HO_164;clear BK324;clear HB;have HO_164 := n0_;have HO327 := n1_;have BK324 := n2_;have HB := n3_;clear n0_ n1_ n2_ n3_;clear hb ho73;obtain ⟨Ao74,co74,eo74⟩ := Kd.R_slice HO327.out;subst eo74)|((with_reducible refine gate_callee (f := 17) rfl ?_);refine goesL_ (some 174) rfl rfl Try.func17 q9_ rfl #[.slice Ao74 y325.length co74,.int .i64 99] rfl q0_ ?_;(with_reducible refine (snappy_Expand.calls k3 _ _ y325 99 t328 t329 _ ?side1 ?side2 A68.out).mono ?_);(case side1=>repeat (first|exact (Kd.R_reads' HO327.out).2.2|(with_reducible refine Kd.C_alloc ?_ _)|(with_reducible refine Kd.C_drewN ?_ _)|(with_reducible refine Kd.C_drew ?_)));(case side2=>exact (Kd.R_reads' HO327.out).2.1);rintro e w75 ⟨rfl,hb⟩;refine ⟨_,rfl,?_⟩;have n0_ := Aside0.mk (Kd.R_below q26_ hb);have n1_ := Aside0.mk (Kd.R_below (by (with_reducible repeat (first|apply Kd.R_alloc|apply Kd.R_drewN|apply Kd.R_drew));exact HO327.out) hb);have n2_ := Aside0.mk (blk_below (g := gb324) (o := .cells #[.bool ((rd_T35 y320 x166_3).f0),.string ((rd_T35 y320 x166_3).f1),.int .i64 ((rd_T35 y320 x166_3).f2),.int .i64 ((rd_T35 y320 x166_3).f3)] 35 (0,0)) (by (with_reducible repeat (first|refine blk_drewN ?_ _|refine blk_drew ?_|refine blk_alloc ?_ _));exact BK324.out) hb);have n3_ := Aside0.mk (below_step q54_ hb);clear HO_164;clear HO327;clear BK324;clear HB;have HO_164 := n0_;have HO327 := n1_;have BK324 := n2_;have HB := n3_;clear n0_ n1_ n2_ n3_;(try clear hb);(try clear hb2);(try clear hk);(try clear hi)))
                go_roundg k3
                case measure=>have := HK1.out;have := HJ33.out;have := HK3.out;omega
                case rel=>exact ⟨(wrap64 (x166_3 + 1)),q4_,H',⟨by have := HK1.out;have := HJ33.out;have := HK3.out;omega⟩,⟨by (with_reducible repeat (first|apply Kd.R_alloc|apply Kd.R_drewN|apply Kd.R_drew));exact Kd.R_mono HO_164.out (fun _ hk=>trivial)⟩,⟨q54_⟩⟩
               ·rw [if_neg c69] at H
                have c69b0 : (t329 == 4) = false := beq_eq_false_iff_ne.mpr c69
                have c69b1 : (t329 != 4) = true := bne_iff_ne.mpr c69
                obtain rfl := Option.some.inj H
                have p323 : 0 ≤ (x166_3 : Int) := of_decide_eq_true q3_
                have q323 : x166_3 < (y320.length : Int) := of_decide_eq_true q3_
                obtain ⟨ad323,e323,hx323_0,hx323_1,hx323_2,hx323_3⟩ := at_T35 (Kd.R_reads' HO_164.out).2.2 x166_3 p323 q323
                cases e323
                replace p323 := eq_true p323
                replace q323 := eq_true q323
                go_wp2_with (first|((with_reducible refine gate_dst (N := 19) rfl ?_);(try (refine gate_guard (by rfl) ?_;dsimp only));refine box_event ?hg (N := 19) ?hd (cs := #[.bool false,.string (⟨#[]⟩ : ByteArray),.int .i64 0,.int .i64 0]) (t := 35) ?hr ?_;(case hd=>rfl);(case hg=>rfl);(case hr=>first|(go_simp;done)|(go_simp;rfl)|(go_simp;simp [my_u8w];done));intro gb324 hg w76 hbox hb;have n0_ := Aside0.mk (Kd.R_below (Kd.R_elderB q26_ gb324 (Nat.le_of_eq hg.symm)) hb);have n1_ := Aside0.mk (below_step (bl_) hb);have n2_ := Aside0.mk (hbox);have n3_ := Aside0.mk ((by rw [hg];exact (below_size (bl_)) : w.heap.size ≤ gb324));have n4_ := Aside0.mk ((by rw [hg];exact (below_size (bl_)) : w.heap.size ≤ gb324));clear HO_164;clear HB;have HO_164 := n0_;have HB := n1_;have BK324 := n2_;have GW324 := n3_;have GE324 := n4_;clear n0_ n1_ n2_ n3_ n4_;clear hb hbox hg;have hcz77_0 : w76.cell? ⟨gb324,0,none⟩ = some (.bool false) := (blk_cell BK324.out 0).trans rfl;have hcz77_1 : w76.cell? ⟨gb324,1,none⟩ = some (.string (⟨#[]⟩ : ByteArray)) := (blk_cell BK324.out 1).trans rfl;have hcz77_2 : w76.cell? ⟨gb324,2,none⟩ = some (.int .i64 0) := (blk_cell BK324.out 2).trans rfl;have hcz77_3 : w76.cell? ⟨gb324,3,none⟩ = some (.int .i64 0) := (blk_cell BK324.out 3).trans rfl;have hfz77_0 := blk_frozen BK324.out 0;have hfz77_1 := blk_frozen BK324.out 1;have hfz77_2 := blk_frozen BK324.out 2;have hfz77_3 := blk_frozen BK324.out 3)|((with_reducible refine gate_dst (N := 173) rfl ?_);(try (refine gate_guard (by rfl) ?_;dsimp only));refine Kd.R_lit k35 _ 35 ?hg (N := 173) ?hd (xs := ([(⟨false,(⟨#[97,98,99,100,101]⟩ : ByteArray),0,0⟩ : S35),(⟨(rd_T35 y320 x166_3).f0,(rd_T35 y320 x166_3).f1,(rd_T35 y320 x166_3).f2,(rd_T35 y320 x166_3).f3⟩ : S35)] : List (S35))) (inner := [.bool false,.string (⟨#[97,98,99,100,101]⟩ : ByteArray),.int .i64 0,.int .i64 0,.bool ((rd_T35 y320 x166_3).f0),.string ((rd_T35 y320 x166_3).f1),.int .i64 ((rd_T35 y320 x166_3).f2),.int .i64 ((rd_T35 y320 x166_3).f3)]) (ok := fun _=>True) (okp := fun _=>True) ?hr ?hp (fun _ hk=>hk) trivial (Below.refl _ _) (Nat.le_refl _) (by simp) ?_;(case hd=>rfl);(case hg=>rfl);(case hr=>first|(go_simp;done)|(go_simp;rfl)|(go_simp;simp [my_u8w];done));(case hp=>exact (Reps.c4 (show Kd.M k35 _ _ _ (⟨false,(⟨#[97,98,99,100,101]⟩ : ByteArray),0,0⟩ : S35) [.bool false,.string (⟨#[97,98,99,100,101]⟩ : ByteArray),.int .i64 0,.int .i64 0] from (k35_mkM _ _ _ (⟨false,(⟨#[97,98,99,100,101]⟩ : ByteArray),0,0⟩ : S35) )) (Reps.c4 (show Kd.M k35 _ _ _ (⟨(rd_T35 y320 x166_3).f0,(rd_T35 y320 x166_3).f1,(rd_T35 y320 x166_3).f2,(rd_T35 y320 x166_3).f3⟩ : S35) [.bool ((rd_T35 y320 x166_3).f0),.string ((rd_T35 y320 x166_3).f1),.int .i64 ((rd_T35 y320 x166_3).f2),.int .i64 ((rd_T35 y320 x166_3).f3)] from (k35_mkM _ _ _ (⟨(rd_T35 y320 x166_3).f0,(rd_T35 y320 x166_3).f1,(rd_T35 y320 x166_3).f2,(rd_T35 y320 x166_3).f3⟩ : S35) )) (Reps.none _ _))));intro v326 w78 ho79 hb hg_ hnew_;clear hg_ hnew_;(first|rw [← Ny325.out] at ho79|(simp only [Int.reduceToNat] at ho79;rw [← Ny325.out] at ho79));have n0_ := Aside0.mk (Kd.R_elder' q38_ (Kd.R_base ho79) hb);have n1_ := Aside0.mk (Kd.R_lower (Kd.R_newB (Kd.R_new' ho79 (Kd.R_lt q38_)) (g := gb324) (o := .cells #[.bool ((rd_T35 y320 x166_3).f0),.string ((rd_T35 y320 x166_3).f1),.int .i64 ((rd_T35 y320 x166_3).f2),.int .i64 ((rd_T35 y320 x166_3).f3)] 35 (0,0)) q20_) (below_size q54_));have n2_ := Aside0.mk (blk_below (g := gb324) (o := .cells #[.bool ((rd_T35 y320 x166_3).f0),.string ((rd_T35 y320 x166_3).f1),.int .i64 ((rd_T35 y320 x166_3).f2),.int .i64 ((rd_T35 y320 x166_3).f3)] 35 (0,0)) q20_ hb);have n3_ := Aside0.mk (below_step q54_ hb);clear HO_164;clear BK324;clear HB;have HO_164 := n0_;have HO327 := n1_;have BK324 := n2_;have HB := n3_;clear n0_ n1_ n2_ n3_;clear hb ho79;obtain ⟨Ao80,co80,eo80⟩ := Kd.R_slice HO327.out;subst eo80)|((with_reducible refine gate_callee (f := 17) rfl ?_);refine goesL_ (some 174) rfl rfl Try.func17 q9_ rfl #[.slice Ao80 y325.length co80,.int .i64 99] rfl q0_ ?_;(with_reducible refine (snappy_Expand.calls k3 _ _ y325 99 t328 t329 _ ?side1 ?side2 A68.out).mono ?_);(case side1=>repeat (first|exact (Kd.R_reads' HO327.out).2.2|(with_reducible refine Kd.C_alloc ?_ _)|(with_reducible refine Kd.C_drewN ?_ _)|(with_reducible refine Kd.C_drew ?_)));(case side2=>exact (Kd.R_reads' HO327.out).2.1);rintro e w81 ⟨rfl,hb⟩;refine ⟨_,rfl,?_⟩;have n0_ := Aside0.mk (Kd.R_below q26_ hb);have n1_ := Aside0.mk (Kd.R_below (by (with_reducible repeat (first|apply Kd.R_alloc|apply Kd.R_drewN|apply Kd.R_drew));exact HO327.out) hb);have n2_ := Aside0.mk (blk_below (g := gb324) (o := .cells #[.bool ((rd_T35 y320 x166_3).f0),.string ((rd_T35 y320 x166_3).f1),.int .i64 ((rd_T35 y320 x166_3).f2),.int .i64 ((rd_T35 y320 x166_3).f3)] 35 (0,0)) (by (with_reducible repeat (first|refine blk_drewN ?_ _|refine blk_drew ?_|refine blk_alloc ?_ _));exact BK324.out) hb);have n3_ := Aside0.mk (below_step q54_ hb);clear HO_164;clear HO327;clear BK324;clear HB;have HO_164 := n0_;have HO327 := n1_;have BK324 := n2_;have HB := n3_;clear n0_ n1_ n2_ n3_;(try clear hb);(try clear hb2);(try clear hk);(try clear hi)))
                go_ret
                exact ⟨q1_,q54_⟩
              ·rw [if_neg c67] at H
               exact absurd H (by simp)
             ·rw [if_neg c66] at H
              exact absurd H (by simp)
            ·rw [if_neg c65] at H
             have c65b0 : decide (x166_3 < (y320.length : Int)) = false := decide_eq_false c65
             clear c65
             obtain ⟨y330,hy330⟩ : ∃ y_ : List (S35),y_ = (([(⟨false,(⟨#[97,98,99,100,101]⟩ : ByteArray),0,0⟩ : S35)] : List (S35))) := ⟨_,rfl⟩
             replace H : ((snappy_Expand.f k3 y330 4).bind fun bt333=>((snappy_Expand.f k3 ([] : List (S35)) (-1)).bind fun bt335=>((snappy_Match.f k3 (⟨#[97,98,99]⟩ : ByteArray) 3).bind fun bt337=>(if bt333.2 = 40 then (if bt335.2 = 0 then (if bt337.1 = 0 then (some (bt337.2 == 0)) else (some false)) else (some false)) else (some false))))) = some r := by first|(rw [hy330];with_reducible exact H)|(have H2_ := (Option.bind_some _ _).symm.trans H;rw [hy330];with_reducible exact H2_)|(have H2_ := (Option.bind_some _ _).symm.trans H;with_reducible exact H2_)|with_reducible exact H|(rw [hy330];exact H)|exact H
             have Ny330 := Aside0.mk hy330
             clear hy330
             replace H := Option.bind_eq_some_iff.mp H
             obtain ⟨⟨t333,t334⟩,A820,H⟩ := H
             replace H : ((snappy_Expand.f k3 ([] : List (S35)) (-1)).bind fun bt335=>((snappy_Match.f k3 (⟨#[97,98,99]⟩ : ByteArray) 3).bind fun bt337=>(if t334 = 40 then (if bt335.2 = 0 then (if bt337.1 = 0 then (some (bt337.2 == 0)) else (some false)) else (some false)) else (some false)))) = some r := H
             have A82 := Aside0.mk A820
             clear A820
             replace H := Option.bind_eq_some_iff.mp H
             obtain ⟨⟨t335,t336⟩,A830,H⟩ := H
             replace H : ((snappy_Match.f k3 (⟨#[97,98,99]⟩ : ByteArray) 3).bind fun bt337=>(if t334 = 40 then (if t336 = 0 then (if bt337.1 = 0 then (some (bt337.2 == 0)) else (some false)) else (some false)) else (some false))) = some r := H
             have A83 := Aside0.mk A830
             clear A830
             replace H := Option.bind_eq_some_iff.mp H
             obtain ⟨⟨t337,t338⟩,A840,H⟩ := H
             replace H : (if t334 = 40 then (if t336 = 0 then (if t337 = 0 then (some (t338 == 0)) else (some false)) else (some false)) else (some false)) = some r := H
             have A84 := Aside0.mk A840
             clear A840
             by_cases c85 : t334 = 40
             ·rw [if_pos c85] at H
              have c85b0 : (t334 == 40) = true := beq_iff_eq.mpr c85
              have c85b1 : (t334 != 40) = false := bne_eq_false_iff_eq.mpr c85
              clear c85
              by_cases c86 : t336 = 0
              ·rw [if_pos c86] at H
               have c86b0 : (t336 == 0) = true := beq_iff_eq.mpr c86
               have c86b1 : (t336 != 0) = false := bne_eq_false_iff_eq.mpr c86
               clear c86
               by_cases c87 : t337 = 0
               ·rw [if_pos c87] at H
                have c87b0 : (t337 == 0) = true := beq_iff_eq.mpr c87
                have c87b1 : (t337 != 0) = false := bne_eq_false_iff_eq.mpr c87
                clear c87
                obtain rfl := Option.some.inj H
                go_wp2_with (first|((with_reducible refine gate_dst (N := 182) rfl ?_);(try (refine gate_guard (by rfl) ?_;dsimp only));refine Kd.R_lit k35 _ 35 ?hg (N := 182) ?hd (xs := ([(⟨false,(⟨#[97,98,99,100,101]⟩ : ByteArray),0,0⟩ : S35)] : List (S35))) (inner := [.bool false,.string (⟨#[97,98,99,100,101]⟩ : ByteArray),.int .i64 0,.int .i64 0]) (ok := fun _=>True) (okp := fun _=>True) ?hr ?hp (fun _ hk=>hk) trivial (Below.refl _ _) (Nat.le_refl _) (by simp) ?_;(case hd=>rfl);(case hg=>rfl);(case hr=>first|(go_simp;done)|(go_simp;rfl)|(go_simp;simp [my_u8w];done));(case hp=>exact (Reps.c4 (show Kd.M k35 _ _ _ (⟨false,(⟨#[97,98,99,100,101]⟩ : ByteArray),0,0⟩ : S35) [.bool false,.string (⟨#[97,98,99,100,101]⟩ : ByteArray),.int .i64 0,.int .i64 0] from (k35_mkM _ _ _ (⟨false,(⟨#[97,98,99,100,101]⟩ : ByteArray),0,0⟩ : S35) )) (Reps.none _ _)));intro v331 w88 ho89 hb hg_ hnew_;clear hg_ hnew_;(first|rw [← Ny330.out] at ho89|(simp only [Int.reduceToNat] at ho89;rw [← Ny330.out] at ho89));have n0_ := Aside0.mk (Kd.R_elder' q26_ (Kd.R_base ho89) hb);have n1_ := Aside0.mk (Kd.R_lower (Kd.R_new' ho89 (Kd.R_lt q26_)) (below_size (bl_)));have n2_ := Aside0.mk (below_step (bl_) hb);clear HO_164;clear HB;have HO_164 := n0_;have HO332 := n1_;have HB := n2_;clear n0_ n1_ n2_;clear hb ho89;obtain ⟨Ao90,co90,eo90⟩ := Kd.R_slice HO332.out;subst eo90)|((with_reducible refine gate_callee (f := 17) rfl ?_);refine goesL_ (some 183) rfl rfl Try.func17 q9_ rfl #[.slice Ao90 y330.length co90,.int .i64 4] rfl q0_ ?_;(with_reducible refine (snappy_Expand.calls k3 _ _ y330 4 t333 t334 _ ?side1 ?side2 A82.out).mono ?_);(case side1=>repeat (first|exact (Kd.R_reads' HO332.out).2.2|(with_reducible refine Kd.C_alloc ?_ _)|(with_reducible refine Kd.C_drewN ?_ _)|(with_reducible refine Kd.C_drew ?_)));(case side2=>exact (Kd.R_reads' HO332.out).2.1);rintro e w91 ⟨rfl,hb⟩;refine ⟨_,rfl,?_⟩;have n0_ := Aside0.mk (Kd.R_below q26_ hb);have n1_ := Aside0.mk (Kd.R_below q53_ hb);have n2_ := Aside0.mk (below_step (bl_) hb);clear HO_164;clear HO332;clear HB;have HO_164 := n0_;have HO332 := n1_;have HB := n2_;clear n0_ n1_ n2_;(try clear hb);(try clear hb2);(try clear hk);(try clear hi))|((with_reducible refine gate_callee (f := 17) rfl ?_);refine goesL_ (some 187) rfl rfl Try.func17 q9_ rfl #[.slice none 0 0,.int .i64 (-1)] rfl q0_ ?_;(refine (snappy_Expand.calls k3 _ _ ([] : List (S35)) (-1) t335 t336 _ ?side1 ?side2 A83.out).mono ?_);(case side1=>exact Kd.C_nil _ _);(case side2=>exact Nat.le_refl _);rintro e w92 ⟨rfl,hb⟩;refine ⟨_,rfl,?_⟩;have n0_ := Aside0.mk (Kd.R_below q26_ hb);have n1_ := Aside0.mk (Kd.R_below q53_ hb);have n2_ := Aside0.mk (below_step (bl_) hb);clear HO_164;clear HO332;clear HB;have HO_164 := n0_;have HO332 := n1_;have HB := n2_;clear n0_ n1_ n2_;(try clear hb);(try clear hb2);(try clear hk);(try clear hi))|((with_reducible refine gate_callee (f := 18) rfl ?_);refine goesL_ (some 191) rfl rfl Try.func18 q9_ rfl #[.string (⟨#[97,98,99]⟩ : ByteArray),.int .i64 3] rfl q0_ ?_;(with_reducible refine (snappy_Match.calls k3 (⟨#[97,98,99]⟩ : ByteArray) 3 t337 t338 _ A84.out).mono ?_);rintro e w93 ⟨rfl,hb⟩;refine ⟨_,rfl,?_⟩;have n0_ := Aside0.mk (Kd.R_below q26_ hb);have n1_ := Aside0.mk (Kd.R_below q53_ hb);have n2_ := Aside0.mk (below_step (bl_) hb);clear HO_164;clear HO332;clear HB;have HO_164 := n0_;have HO332 := n1_;have HB := n2_;clear n0_ n1_ n2_;(try clear hb);(try clear hb2);(try clear hk);(try clear hi)))
                go_ret
                exact ⟨q1_,bl_⟩
               ·rw [if_neg c87] at H
                have c87b0 : (t337 == 0) = false := beq_eq_false_iff_ne.mpr c87
                have c87b1 : (t337 != 0) = true := bne_iff_ne.mpr c87
                obtain rfl := Option.some.inj H
                go_wp2_with (first|((with_reducible refine gate_dst (N := 182) rfl ?_);(try (refine gate_guard (by rfl) ?_;dsimp only));refine Kd.R_lit k35 _ 35 ?hg (N := 182) ?hd (xs := ([(⟨false,(⟨#[97,98,99,100,101]⟩ : ByteArray),0,0⟩ : S35)] : List (S35))) (inner := [.bool false,.string (⟨#[97,98,99,100,101]⟩ : ByteArray),.int .i64 0,.int .i64 0]) (ok := fun _=>True) (okp := fun _=>True) ?hr ?hp (fun _ hk=>hk) trivial (Below.refl _ _) (Nat.le_refl _) (by simp) ?_;(case hd=>rfl);(case hg=>rfl);(case hr=>first|(go_simp;done)|(go_simp;rfl)|(go_simp;simp [my_u8w];done));(case hp=>exact (Reps.c4 (show Kd.M k35 _ _ _ (⟨false,(⟨#[97,98,99,100,101]⟩ : ByteArray),0,0⟩ : S35) [.bool false,.string (⟨#[97,98,99,100,101]⟩ : ByteArray),.int .i64 0,.int .i64 0] from (k35_mkM _ _ _ (⟨false,(⟨#[97,98,99,100,101]⟩ : ByteArray),0,0⟩ : S35) )) (Reps.none _ _)));intro v331 w94 ho95 hb hg_ hnew_;clear hg_ hnew_;(first|rw [← Ny330.out] at ho95|(simp only [Int.reduceToNat] at ho95;rw [← Ny330.out] at ho95));have n0_ := Aside0.mk (Kd.R_elder' q26_ (Kd.R_base ho95) hb);have n1_ := Aside0.mk (Kd.R_lower (Kd.R_new' ho95 (Kd.R_lt q26_)) (below_size (bl_)));have n2_ := Aside0.mk (below_step (bl_) hb);clear HO_164;clear HB;have HO_164 := n0_;have HO332 := n1_;have HB := n2_;clear n0_ n1_ n2_;clear hb ho95;obtain ⟨Ao96,co96,eo96⟩ := Kd.R_slice HO332.out;subst eo96)|((with_reducible refine gate_callee (f := 17) rfl ?_);refine goesL_ (some 183) rfl rfl Try.func17 q9_ rfl #[.slice Ao96 y330.length co96,.int .i64 4] rfl q0_ ?_;(with_reducible refine (snappy_Expand.calls k3 _ _ y330 4 t333 t334 _ ?side1 ?side2 A82.out).mono ?_);(case side1=>repeat (first|exact (Kd.R_reads' HO332.out).2.2|(with_reducible refine Kd.C_alloc ?_ _)|(with_reducible refine Kd.C_drewN ?_ _)|(with_reducible refine Kd.C_drew ?_)));(case side2=>exact (Kd.R_reads' HO332.out).2.1);rintro e w97 ⟨rfl,hb⟩;refine ⟨_,rfl,?_⟩;have n0_ := Aside0.mk (Kd.R_below q26_ hb);have n1_ := Aside0.mk (Kd.R_below q53_ hb);have n2_ := Aside0.mk (below_step (bl_) hb);clear HO_164;clear HO332;clear HB;have HO_164 := n0_;have HO332 := n1_;have HB := n2_;clear n0_ n1_ n2_;(try clear hb);(try clear hb2);(try clear hk);(try clear hi))|((with_reducible refine gate_callee (f := 17) rfl ?_);refine goesL_ (some 187) rfl rfl Try.func17 q9_ rfl #[.slice none 0 0,.int .i64 (-1)] rfl q0_ ?_;(refine (snappy_Expand.calls k3 _ _ ([] : List (S35)) (-1) t335 t336 _ ?side1 ?side2 A83.out).mono ?_);(case side1=>exact Kd.C_nil _ _);(case side2=>exact Nat.le_refl _);rintro e w98 ⟨rfl,hb⟩;refine ⟨_,rfl,?_⟩;have n0_ := Aside0.mk (Kd.R_below q26_ hb);have n1_ := Aside0.mk (Kd.R_below q53_ hb);have n2_ := Aside0.mk (below_step (bl_) hb);clear HO_164;clear HO332;clear HB;have HO_164 := n0_;have HO332 := n1_;have HB := n2_;clear n0_ n1_ n2_;(try clear hb);(try clear hb2);(try clear hk);(try clear hi))|((with_reducible refine gate_callee (f := 18) rfl ?_);refine goesL_ (some 191) rfl rfl Try.func18 q9_ rfl #[.string (⟨#[97,98,99]⟩ : ByteArray),.int .i64 3] rfl q0_ ?_;(with_reducible refine (snappy_Match.calls k3 (⟨#[97,98,99]⟩ : ByteArray) 3 t337 t338 _ A84.out).mono ?_);rintro e w99 ⟨rfl,hb⟩;refine ⟨_,rfl,?_⟩;have n0_ := Aside0.mk (Kd.R_below q26_ hb);have n1_ := Aside0.mk (Kd.R_below q53_ hb);have n2_ := Aside0.mk (below_step (bl_) hb);clear HO_164;clear HO332;clear HB;have HO_164 := n0_;have HO332 := n1_;have HB := n2_;clear n0_ n1_ n2_;(try clear hb);(try clear hb2);(try clear hk);(try clear hi)))
                go_ret
                exact ⟨q1_,bl_⟩
              ·rw [if_neg c86] at H
               have c86b0 : (t336 == 0) = false := beq_eq_false_iff_ne.mpr c86
               have c86b1 : (t336 != 0) = true := bne_iff_ne.mpr c86
               obtain rfl := Option.some.inj H
               go_wp2_with (first|((with_reducible refine gate_dst (N := 182) rfl ?_);(try (refine gate_guard (by rfl) ?_;dsimp only));refine Kd.R_lit k35 _ 35 ?hg (N := 182) ?hd (xs := ([(⟨false,(⟨#[97,98,99,100,101]⟩ : ByteArray),0,0⟩ : S35)] : List (S35))) (inner := [.bool false,.string (⟨#[97,98,99,100,101]⟩ : ByteArray),.int .i64 0,.int .i64 0]) (ok := fun _=>True) (okp := fun _=>True) ?hr ?hp (fun _ hk=>hk) trivial (Below.refl _ _) (Nat.le_refl _) (by simp) ?_;(case hd=>rfl);(case hg=>rfl);(case hr=>first|(go_simp;done)|(go_simp;rfl)|(go_simp;simp [my_u8w];done));(case hp=>exact (Reps.c4 (show Kd.M k35 _ _ _ (⟨false,(⟨#[97,98,99,100,101]⟩ : ByteArray),0,0⟩ : S35) [.bool false,.string (⟨#[97,98,99,100,101]⟩ : ByteArray),.int .i64 0,.int .i64 0] from (k35_mkM _ _ _ (⟨false,(⟨#[97,98,99,100,101]⟩ : ByteArray),0,0⟩ : S35) )) (Reps.none _ _)));intro v331 w100 ho101 hb hg_ hnew_;clear hg_ hnew_;(first|rw [← Ny330.out] at ho101|(simp only [Int.reduceToNat] at ho101;rw [← Ny330.out] at ho101));have n0_ := Aside0.mk (Kd.R_elder' q26_ (Kd.R_base ho101) hb);have n1_ := Aside0.mk (Kd.R_lower (Kd.R_new' ho101 (Kd.R_lt q26_)) (below_size (bl_)));have n2_ := Aside0.mk (below_step (bl_) hb);clear HO_164;clear HB;have HO_164 := n0_;have HO332 := n1_;have HB := n2_;clear n0_ n1_ n2_;clear hb ho101;obtain ⟨Ao102,co102,eo102⟩ := Kd.R_slice HO332.out;subst eo102)|((with_reducible refine gate_callee (f := 17) rfl ?_);refine goesL_ (some 183) rfl rfl Try.func17 q9_ rfl #[.slice Ao102 y330.length co102,.int .i64 4] rfl q0_ ?_;(with_reducible refine (snappy_Expand.calls k3 _ _ y330 4 t333 t334 _ ?side1 ?side2 A82.out).mono ?_);(case side1=>repeat (first|exact (Kd.R_reads' HO332.out).2.2|(with_reducible refine Kd.C_alloc ?_ _)|(with_reducible refine Kd.C_drewN ?_ _)|(with_reducible refine Kd.C_drew ?_)));(case side2=>exact (Kd.R_reads' HO332.out).2.1);rintro e w103 ⟨rfl,hb⟩;refine ⟨_,rfl,?_⟩;have n0_ := Aside0.mk (Kd.R_below q26_ hb);have n1_ := Aside0.mk (Kd.R_below q53_ hb);have n2_ := Aside0.mk (below_step (bl_) hb);clear HO_164;clear HO332;clear HB;have HO_164 := n0_;have HO332 := n1_;have HB := n2_;clear n0_ n1_ n2_;(try clear hb);(try clear hb2);(try clear hk);(try clear hi))|((with_reducible refine gate_callee (f := 17) rfl ?_);refine goesL_ (some 187) rfl rfl Try.func17 q9_ rfl #[.slice none 0 0,.int .i64 (-1)] rfl q0_ ?_;(refine (snappy_Expand.calls k3 _ _ ([] : List (S35)) (-1) t335 t336 _ ?side1 ?side2 A83.out).mono ?_);(case side1=>exact Kd.C_nil _ _);(case side2=>exact Nat.le_refl _);rintro e w104 ⟨rfl,hb⟩;refine ⟨_,rfl,?_⟩;have n0_ := Aside0.mk (Kd.R_below q26_ hb);have n1_ := Aside0.mk (Kd.R_below q53_ hb);have n2_ := Aside0.mk (below_step (bl_) hb);clear HO_164;clear HO332;clear HB;have HO_164 := n0_;have HO332 := n1_;have HB := n2_;clear n0_ n1_ n2_;(try clear hb);(try clear hb2);(try clear hk);(try clear hi))|((with_reducible refine gate_callee (f := 18) rfl ?_);refine goesL_ (some 191) rfl rfl Try.func18 q9_ rfl #[.string (⟨#[97,98,99]⟩ : ByteArray),.int .i64 3] rfl q0_ ?_;(with_reducible refine (snappy_Match.calls k3 (⟨#[97,98,99]⟩ : ByteArray) 3 t337 t338 _ A84.out).mono ?_);rintro e w105 ⟨rfl,hb⟩;refine ⟨_,rfl,?_⟩;have n0_ := Aside0.mk (Kd.R_below q26_ hb);have n1_ := Aside0.mk (Kd.R_below q53_ hb);have n2_ := Aside0.mk (below_step (bl_) hb);clear HO_164;clear HO332;clear HB;have HO_164 := n0_;have HO332 := n1_;have HB := n2_;clear n0_ n1_ n2_;(try clear hb);(try clear hb2);(try clear hk);(try clear hi)))
               go_ret
               exact ⟨q1_,bl_⟩
             ·rw [if_neg c85] at H
              have c85b0 : (t334 == 40) = false := beq_eq_false_iff_ne.mpr c85
              have c85b1 : (t334 != 40) = true := bne_iff_ne.mpr c85
              obtain rfl := Option.some.inj H
              go_wp2_with (first|((with_reducible refine gate_dst (N := 182) rfl ?_);(try (refine gate_guard (by rfl) ?_;dsimp only));refine Kd.R_lit k35 _ 35 ?hg (N := 182) ?hd (xs := ([(⟨false,(⟨#[97,98,99,100,101]⟩ : ByteArray),0,0⟩ : S35)] : List (S35))) (inner := [.bool false,.string (⟨#[97,98,99,100,101]⟩ : ByteArray),.int .i64 0,.int .i64 0]) (ok := fun _=>True) (okp := fun _=>True) ?hr ?hp (fun _ hk=>hk) trivial (Below.refl _ _) (Nat.le_refl _) (by simp) ?_;(case hd=>rfl);(case hg=>rfl);(case hr=>first|(go_simp;done)|(go_simp;rfl)|(go_simp;simp [my_u8w];done));(case hp=>exact (Reps.c4 (show Kd.M k35 _ _ _ (⟨false,(⟨#[97,98,99,100,101]⟩ : ByteArray),0,0⟩ : S35) [.bool false,.string (⟨#[97,98,99,100,101]⟩ : ByteArray),.int .i64 0,.int .i64 0] from (k35_mkM _ _ _ (⟨false,(⟨#[97,98,99,100,101]⟩ : ByteArray),0,0⟩ : S35) )) (Reps.none _ _)));intro v331 w106 ho107 hb hg_ hnew_;clear hg_ hnew_;(first|rw [← Ny330.out] at ho107|(simp only [Int.reduceToNat] at ho107;rw [← Ny330.out] at ho107));have n0_ := Aside0.mk (Kd.R_elder' q26_ (Kd.R_base ho107) hb);have n1_ := Aside0.mk (Kd.R_lower (Kd.R_new' ho107 (Kd.R_lt q26_)) (below_size (bl_)));have n2_ := Aside0.mk (below_step (bl_) hb);clear HO_164;clear HB;have HO_164 := n0_;have HO332 := n1_;have HB := n2_;clear n0_ n1_ n2_;clear hb ho107;obtain ⟨Ao108,co108,eo108⟩ := Kd.R_slice HO332.out;subst eo108)|((with_reducible refine gate_callee (f := 17) rfl ?_);refine goesL_ (some 183) rfl rfl Try.func17 q9_ rfl #[.slice Ao108 y330.length co108,.int .i64 4] rfl q0_ ?_;(with_reducible refine (snappy_Expand.calls k3 _ _ y330 4 t333 t334 _ ?side1 ?side2 A82.out).mono ?_);(case side1=>repeat (first|exact (Kd.R_reads' HO332.out).2.2|(with_reducible refine Kd.C_alloc ?_ _)|(with_reducible refine Kd.C_drewN ?_ _)|(with_reducible refine Kd.C_drew ?_)));(case side2=>exact (Kd.R_reads' HO332.out).2.1);rintro e w109 ⟨rfl,hb⟩;refine ⟨_,rfl,?_⟩;have n0_ := Aside0.mk (Kd.R_below q26_ hb);have n1_ := Aside0.mk (Kd.R_below q53_ hb);have n2_ := Aside0.mk (below_step (bl_) hb);clear HO_164;clear HO332;clear HB;have HO_164 := n0_;have HO332 := n1_;have HB := n2_;clear n0_ n1_ n2_;(try clear hb);(try clear hb2);(try clear hk);(try clear hi))|((with_reducible refine gate_callee (f := 17) rfl ?_);refine goesL_ (some 187) rfl rfl Try.func17 q9_ rfl #[.slice none 0 0,.int .i64 (-1)] rfl q0_ ?_;(refine (snappy_Expand.calls k3 _ _ ([] : List (S35)) (-1) t335 t336 _ ?side1 ?side2 A83.out).mono ?_);(case side1=>exact Kd.C_nil _ _);(case side2=>exact Nat.le_refl _);rintro e w110 ⟨rfl,hb⟩;refine ⟨_,rfl,?_⟩;have n0_ := Aside0.mk (Kd.R_below q26_ hb);have n1_ := Aside0.mk (Kd.R_below q53_ hb);have n2_ := Aside0.mk (below_step (bl_) hb);clear HO_164;clear HO332;clear HB;have HO_164 := n0_;have HO332 := n1_;have HB := n2_;clear n0_ n1_ n2_;(try clear hb);(try clear hb2);(try clear hk);(try clear hi))|((with_reducible refine gate_callee (f := 18) rfl ?_);refine goesL_ (some 191) rfl rfl Try.func18 q9_ rfl #[.string (⟨#[97,98,99]⟩ : ByteArray),.int .i64 3] rfl q0_ ?_;(with_reducible refine (snappy_Match.calls k3 (⟨#[97,98,99]⟩ : ByteArray) 3 t337 t338 _ A84.out).mono ?_);rintro e w111 ⟨rfl,hb⟩;refine ⟨_,rfl,?_⟩;have n0_ := Aside0.mk (Kd.R_below q26_ hb);have n1_ := Aside0.mk (Kd.R_below q53_ hb);have n2_ := Aside0.mk (below_step (bl_) hb);clear HO_164;clear HO332;clear HB;have HO_164 := n0_;have HO332 := n1_;have HB := n2_;clear n0_ n1_ n2_;(try clear hb);(try clear hb2);(try clear hk);(try clear hi)))
              go_ret
              exact ⟨q1_,bl_⟩
      ·rw [if_neg c29] at H
       exact absurd H (by simp)
     ·rw [if_neg c25] at H
      exact absurd H (by simp)
 ·replace c2 := Bool.eq_false_iff.mpr c2
  subst c2
  have H1 : (some false) = some r := by rw [if_neg (show ¬ (false = true) by decide)] at H;exact H
  clear H
  have H := H1
  clear H1
  obtain rfl := Option.some.inj H
  go_enter Try.func3,Try.ntmps3
  go_wp2_with (first|((with_reducible refine gate_callee (f := 12) rfl ?_);refine goesL_ (some 28) rfl rfl Try.func12 q9_ rfl #[] rfl q0_ ?_;(with_reducible refine (batonlaw03_awake.calls k  false _ A1.out).mono ?_);rintro e w112 ⟨rfl,hb⟩;refine ⟨_,rfl,?_⟩;have n0_ := Aside0.mk (below_step (bl_) hb);clear HB;have HB := n0_;clear n0_;(try clear hb);(try clear hb2);(try clear hk);(try clear hi)))
  go_ret
  exact ⟨q1_,bl_⟩

/-- THE ONE PURE STATEMENT of batonlaw03_SnappyNames: yours. -/
def batonlaw03_SnappyNames.Pure : Prop := ∃ k, batonlaw03_SnappyNames.f k  = some true
theorem batonlaw03_SnappyNames.walk (P : batonlaw03_SnappyNames.Pure)  (w : World)  :
  Calls Try.prog 3 #[] w fun e w'=>e = .returned (.bool true) ∧ Below w.heap.size w w' := by
 obtain ⟨k,h⟩ := P  
 refine (batonlaw03_SnappyNames.calls k  true w h).mono ?_
 rintro e w' ⟨rfl,hd⟩
 exact ⟨rfl,hd⟩

end Go.Proofs.Ythcjcmgdblhhfaa.PV
