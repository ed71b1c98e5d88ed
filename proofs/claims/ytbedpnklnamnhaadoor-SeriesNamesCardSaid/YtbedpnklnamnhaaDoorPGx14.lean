/- The machine side of these statements: what each Go function computes as a plain function, and that its call computes just that. Written by a program of mine (wip/drive.py). No conditions. -/
import Derived.Test.YtbedpnklnamnhaaDoorPGx0
import Derived.Test.YtbedpnklnamnhaaDoorPGx5
namespace Go.Proofs.YtbedpnklnamnhaaDoor.PG
open Go.RowKit Go.Proofs.YtbedpnklnamnhaaDoorW.PrintWords Go.Proofs.YtbedpnklnamnhaaDoorW.PrintLast Go.Proofs.YtbedpnklnamnhaaDoorW.PrintMore
attribute [local go_sem] max2_int min2_int max_two min_two max_three min_three max_four min_four   -- for this text's walks alone
set_option linter.unusedVariables false
set_option linter.unusedSimpArgs false

/-! ### slices_Insert: function 25 -/
def c25 (x : S40) : List Value := [.int .i64 x.f0, .int .u64 x.f1]
def enc25 (l : List S40) : List Value := l.flatMap c25
theorem enc25_len : ∀ l : List S40, (enc25 l).length = l.length * 2
 | []=>rfl
 | x :: l=>by rw [enc25,List.flatMap_cons,List.length_append,← enc25,enc25_len l,List.length_cons];simp [c25];omega
theorem enc25_app (a b : List S40) : enc25 (a ++ b) = enc25 a ++ enc25 b := by unfold enc25; rw [List.flatMap_append]
theorem enc25_one : ∀ l : List S40, ∀ u ∈ enc25 l, u.oneCell' = true := by
 intro l u hu
 obtain ⟨x,_,hx⟩ := List.mem_flatMap.1 hu
 simp [c25] at hx
 rcases hx with rfl|rfl <;> rfl
theorem enc25_at : ∀ (l : List S40) (j : Nat) (p : S40), l[j]? = some p → ((enc25 l).drop (j * 2)).take 2 = c25 p
 | [],j,p,h=>by simp at h
 | x :: l,0,p,h=>by
  simp at h
  subst h
  rfl
 | x :: l,j + 1,p,h=>by
  have := enc25_at l j p (by simpa using h)
  rw [enc25,List.flatMap_cons,← enc25]
  have h2 : (c25 x).length = 2 := rfl
  rw [List.drop_append,List.drop_eq_nil_of_le q72_,List.nil_append,show (j + 1) * 2 - (c25 x).length = j * 2 by omega]
  exact this
theorem reps25 (w : World) (base : Nat) (ok : Nat → Prop) (l : List S40) : Reps (k40.M w base ok) 2 l (enc25 l) := by
 refine ⟨enc25_len l,fun j p h=>?_⟩
 rw [enc25_at l j p h]
 exact k40_mkM w base ok p
theorem reps25_is {w : World} {base : Nat} {ok : Nat → Prop} : ∀ (l : List S40) (cs : List Value), Reps (k40.M w base ok) 2 l cs → cs = enc25 l
 | [],cs,h=>List.eq_nil_of_length_eq_zero (by simpa using h.1)
 | x :: l,cs,h=>by
  have h0 := k40_openM (h.2 0 x rfl)
  rw [Nat.zero_mul,List.drop_zero] at h0
  have hl := h.1
  simp only [List.length_cons] at hl
  have ih := reps25_is l (cs.drop 2) ⟨by rw [List.length_drop];omega,fun j p hj=>by
   have := h.2 (j + 1) p (by simpa using hj)
   rwa [show (j + 1) * 2 = 2 + j * 2 by omega,← List.drop_drop] at this⟩
  rw [← List.take_append_drop 2 cs,h0,ih]
  rfl
/-- A row of the call's own: nothing, or a block. -/
theorem R25_open {w : World} {base : Nat} {ok : Nat → Prop} {v : Value} {l : List S40} (h : Kd.R k40 40 w base ok v l) : (v = .slice none 0 0 ∧ l = []) ∨
  ∃ g cap cur,v = .slice (some ⟨g,0,none⟩) l.length cap ∧ ok g ∧ base ≤ g ∧ w.heap[g]? = some (.cells cur 40 (0,0)) ∧ l.length ≤ cap ∧ cap ≤ maxLen ∧ cur.size = cap * 2 ∧ cur.toList.take (l.length * 2) = enc25 l := by
 obtain ⟨hok,inner,hown,hr⟩ := h
 have hi := reps25_is l inner hr
 rcases hown.2 with ⟨rfl,hn⟩|⟨g,cap,cur,rfl,hb,hh,hc,hm,hs,ht⟩
 ·exact Or.inl ⟨rfl,List.eq_nil_of_length_eq_zero hn⟩
 ·exact Or.inr ⟨g,cap,cur,rfl,hok g rfl,hb,hh,hc,hm,hs,by rw [← hi];exact ht⟩
theorem R25_mk {w : World} {base : Nat} {ok : Nat → Prop} {g cap : Nat} {cur : Array Value} {l : List S40} (hok : ok g) (hb : base ≤ g) (hh : w.heap[g]? = some (.cells cur 40 (0, 0))) (hc : l.length ≤ cap) (hm : cap ≤ maxLen) (hs : cur.size = cap * 2)
  (ht : cur.toList.take (l.length * 2) = enc25 l) : Kd.R k40 40 w base ok (.slice (some ⟨g,0,none⟩) l.length cap) l :=
 ⟨fun k hk=>by simp [Value.ownBlock] at hk;subst hk;exact hok,enc25 l,⟨enc25_len l,Or.inr ⟨g,cap,cur,rfl,hb,hh,hc,hm,hs,ht⟩⟩,reps25 _ _ _ l⟩
/-- copy, for elements of two cells. -/
theorem run_copy2 {P : Program} (w : World) (dT sT ty elem : TypeId) (b o dLen dCap : Nat) (a : Addr) (sLen sCap : Nat) (cs : List Value) (k : Nat) (hu : P.underlying dT = some (.slice elem)) (hs : (P.info? elem).map (·.size) = some 2)
  (hk : Nat.min sLen dLen = k) (hn : cs.length = k * 2) (hsrc : ∀ j v,cs[j]? = some v → w.cell? (a.add j) = some v) (hc : ∀ j,j < cs.length → (w.cell? ⟨b,o + j,none⟩).isSome = true) (hf : ∀ j,j < cs.length → w.frozen? ⟨b,o + j,none⟩ = false) (h1 : ∀ v ∈ cs,v.oneCell' = true) :
  (Builtin.copy_ #[dT,sT] ty #[.slice (some ⟨b,o,none⟩) dLen dCap,.slice (some a) sLen sCap]).run P w = .ok (goInt k) (w.setCells b o cs) := by
 have hl := run_loadCells_list (P := P) w a cs hsrc
 have hst := run_storeCells_cells (P := P) b o cs 0 w (by simpa using hc) (by simpa using hf) h1
 rw [hn] at hl
 cases hq : P.info? elem with
 | none=>simp [hq] at hs
 | some i =>
  have hi : i.size = 2 := by simpa [hq] using hs
  simp [Builtin.copy_,run_underlying hu,Builtin.lenOf,Builtin.firstCells,sizeOf,typeInfo,hq,hi,hk,hl,hst]
theorem row25_cell {w : World} {b : Nat} {cur : Array Value} (hb : w.heap[b]? = some (.cells cur 40 (0, 0))) {m : Nat} {cs : List Value} (ht : cur.toList.take m = cs) (j : Nat) (v : Value) (h : cs[j]? = some v) : w.cell? ⟨b, j, none⟩ = some v := by
 subst ht
 rw [List.getElem?_take] at h
 split at h
 ·simpa [World.cell?,hb] using h
 ·cases h
theorem row25_some {w : World} {b : Nat} {cur : Array Value} (hb : w.heap[b]? = some (.cells cur 40 (0, 0))) (j : Nat) (h : j < cur.size) : (w.cell? ⟨b, j, none⟩).isSome = true := by simp [World.cell?, hb, h]
theorem row25_frozen {w : World} {b : Nat} {cur : Array Value} (hb : w.heap[b]? = some (.cells cur 40 (0, 0))) (j : Nat) : w.frozen? ⟨b, j, none⟩ = false := by simp [World.frozen?, hb]
theorem row25_shape {w : World} {b : Nat} {cur : Array Value} (hb : w.heap[b]? = some (.cells cur 40 (0, 0))) : w.shape? b = some (40, cur.size) := by simp [World.shape?, hb]
theorem i64_one (k : Nat) (h : k ≤ 4611686018427387904) : IntKind.i64.wrap ((k : Int) + 1) = (k : Int) + 1 := by rw [IntKind.wrap_i64]; omega
theorem w64_one (k : Nat) (h : k ≤ 4611686018427387904) : wrap64 ((k : Int) + 1) = (k : Int) + 1 := by unfold wrap64; omega
theorem sz25 : (Tryd.prog.info? 40).map (·.size) = some 2 := by
 have := info40
 obtain ⟨i0,h0,h1⟩ := Option.map_eq_some_iff.1 this
 simp only [Prod.mk.injEq] at h1
 rw [h0]
 simp [h1.2.1]
set_option maxHeartbeats 4000000 in
set_option maxRecDepth 100000 in
theorem ins_shift (w : World) (b n c i : Nat) (cur : Array Value) (l : List S40) (vb vc : Nat) (vcur : Array Value) (s : S40) (hi : i < n) (hn : l.length = n) (hroom : n + 1 ≤ c) (hc63 : c ≤ 9223372036854775807) (hn63 : n ≤ 1000000000) (hvb : vb ≠ b)
  (hb : w.heap[b]? = some (.cells cur 40 (0,0))) (hs : cur.size = c * 2) (ht : cur.toList.take (n * 2) = enc25 l) (hv : w.heap[vb]? = some (.cells vcur 40 (0,0))) (hvt : vcur.toList.take 2 = c25 s) :
  Calls Tryd.prog 25 #[.slice (some ⟨b,0,none⟩) n c,.int .i64 i,.slice (some ⟨vb,0,none⟩) 1 vc] w fun e w' =>
   e = .returned (.slice (some ⟨b,0,none⟩) (n + 1) c) ∧ w' = (w.drew.setCells b ((i + 1) * 2) (enc25 (l.drop i))).setCells b (i * 2) (c25 s) := by
 have mixed : Tryd.prog.follows Departure.mixedOrders = true := by kernel_rfl
 have hel : (enc25 l).length = n * 2 := by rw [enc25_len,hn]
 have hdl : (enc25 (l.drop i)).length = (n - i) * 2 := by rw [enc25_len,List.length_drop,hn]
 have hdr : enc25 (l.drop i) = (enc25 l).drop (i * 2) := by
  have : enc25 l = enc25 (l.take i) ++ enc25 (l.drop i) := by rw [← enc25_app,List.take_append_drop]
  rw [this,List.drop_left' (by rw [enc25_len,List.length_take];omega)]
 have hcs := row25_cell hb ht
 have hvs : ∀ j v,(c25 s)[j]? = some v → w.cell? ⟨vb,j,none⟩ = some v := row25_cell hv hvt
 have hz1 : ¬ ((1 : Int) = 0) := by omega
 have hz2 : ¬ ((i : Int) = (n : Int)) := by omega
 have hsz := sz25
 have hso : ∀ w,(Go.sizeOf 40).run Tryd.prog w = .ok 2 w := fun w=>by
  obtain ⟨i0,h0,h1⟩ := Option.map_eq_some_iff.1 hsz
  simp [sizeOf,typeInfo,h0,h1]
 have hov : ∀ lb cb,(callFunc 32 #[.slice (some ⟨vb,0,none⟩) 1 vc,.slice (some ⟨b,(i + 1) * 2,none⟩) lb cb]).run Tryd.prog w = .ok (.value (.bool false)) w := fun lb cb=>by
  rw [run_callFunc_extern Tryd.func32 q38_ q38_ q38_ (e := Extern.SlicesOverlaps.overlaps #[22,22] #[4]) q38_,
   Lib.run_overlaps_apart w 22 4 40 Tryd.underlying22 2 hso ⟨vb,0,none⟩ ⟨b,(i + 1) * 2,none⟩ 1 vc lb cb hvb 40 40 vcur.size cur.size (row25_shape hv) (row25_shape hb) q72_ (row25_frozen hv 0) (row25_frozen hv _)]
  rfl
 have hb1 : (0 : Int) ≤ (i : Int) + 1 := by omega
 have hin : i ≤ n := by omega
 have htn : ((i : Int) + 1).toNat = i + 1 := by omega
 have htn2 : ((n : Int) + 1).toNat = n + 1 := by omega
 have hb2 : ¬ (c = i + 1) := by omega
 have hb3 : (i : Int) ≤ (n : Int) + 1 := by omega
 have hb4 : ¬ (c = i) := by omega
 have hr1 : ¬ ((c : Int) < (n : Int) + 1) := by omega
 have hcp1 : ∀ ty dc sc,(Builtin.copy_ #[22,22] ty #[.slice (some ⟨b,(i + 1) * 2,none⟩) (n - i) dc,.slice (some ⟨b,i * 2,none⟩) (n + 1 - i) sc]).run Tryd.prog w.drew = .ok (goInt ((n - i : Nat) : Int)) (w.drew.setCells b ((i + 1) * 2) (enc25 (l.drop i))) := fun ty dc sc =>
  run_copy2 w.drew _ _ ty 40 b ((i + 1) * 2) (n - i) dc ⟨b,i * 2,none⟩ (n + 1 - i) sc (enc25 (l.drop i)) (n - i) Tryd.underlying22 hsz q85_ hdl
   (fun j v hj=>by rw [Addr.add_lit];rw [hdr,List.getElem?_drop] at hj;exact hcs _ v hj)
   (fun j hj=>row25_some (w := w.drew) hb _ q72_) (fun j hj=>row25_frozen (w := w.drew) hb _) (enc25_one _)
 obtain ⟨W1,hW1⟩ : ∃ W1,W1 = w.drew.setCells b ((i + 1) * 2) (enc25 (l.drop i)) := ⟨_,rfl⟩
 obtain ⟨cur1,hr2,hr3,_⟩ := setCells_row (e := 40) (enc25 (l.drop i)) ((i + 1) * 2) w.drew cur hb q72_
 rw [← hW1] at hr2
 have hcp2 : ∀ (W : World),(∀ x,W.cell? x = W1.cell? x) → (∀ x,W.frozen? x = W1.frozen? x) → ∀ ty dc,(Builtin.copy_ #[22,22] ty #[.slice (some ⟨b,i * 2,none⟩) (n + 1 - i) dc,.slice (some ⟨vb,0,none⟩) 1 vc]).run Tryd.prog W = .ok (goInt ((1 : Nat) : Int)) (W.setCells b (i * 2) (c25 s)) := fun W hWc hWf ty dc =>
  run_copy2 W _ _ ty 40 b (i * 2) (n + 1 - i) dc ⟨vb,0,none⟩ 1 vc (c25 s) 1 Tryd.underlying22 hsz q85_ rfl
   (fun j v hj=>by
    rw [Addr.add_lit,hWc,hW1,World.cell?_setCells_out b _ _ _ _ (fun h _=>absurd h hvb),Nat.zero_add]
    exact hvs j v hj)
   (fun j hj=>by rw [hWc];exact row25_some hr2 _ (by simp [c25] at hj;omega)) (fun j hj=>by rw [hWf];exact row25_frozen hr2 _) (by intro u hu;simp [c25] at hu;rcases hu with rfl|rfl <;> rfl)
 rw [← hW1] at hcp1
 have hle1 : i ≤ 4611686018427387904 := by omega
 have hle2 : n ≤ 4611686018427387904 := by omega
 have hw1 := i64_one i hle1
 have hw2 := i64_one n hle2
 clear hle1 hle2
 go_enter Tryd.func25,Tryd.ntmps25
 go_wp2_with (simp only [hov])
 go_region_law_o (refine step_copy_runI rfl _ _ 22 22 rfl _ _ (by simp [Act.eval,Act.put]) (by simp [Act.eval,Act.put]) (hcp1 _ _ _) ?_)
 go_wp2_with (at_builtin;refine wpList_copy_runI _ rfl _ _ 22 22 rfl _ _ rfl rfl (hcp2 _ (fun _=>rfl) (fun _=>rfl) _ _) ?_)
 go_ret
 exact ⟨rfl,by rw [hdr]⟩
set_option maxHeartbeats 4000000 in
set_option maxRecDepth 100000 in
theorem ins_grow (w : World) (b n c i : Nat) (cur : Array Value) (l : List S40) (vb vc : Nat) (vcur : Array Value) (s : S40) (hi : i < n) (hn : l.length = n) (hnc : n ≤ c) (hroom : c < n + 1) (hbig : (n + 1) * 16 ≤ 140737488355328)
  (hb : w.heap[b]? = some (.cells cur 40 (0,0))) (hs : cur.size = c * 2) (ht : cur.toList.take (n * 2) = enc25 l) (hv : w.heap[vb]? = some (.cells vcur 40 (0,0))) (hvt : vcur.toList.take 2 = c25 s) :
  Calls Tryd.prog 25 #[.slice (some ⟨b,0,none⟩) n c,.int .i64 i,.slice (some ⟨vb,0,none⟩) 1 vc] w fun e w' =>
   ∃ G ROW,n + 1 ≤ G ∧ G ≤ maxLen ∧ (∃ z,ROW = (enc25 (l.take i) ++ z).toArray ∧ (enc25 (l.take i) ++ z).length = G * 2) ∧ e = .returned (.slice (some ⟨w.heap.size,0,none⟩) (n + 1) G) ∧
    w' = (((w.alloc (.cells ROW 40)).drew.setCells w.heap.size (i * 2) (c25 s)).drew).setCells w.heap.size ((i + 1) * 2) (enc25 (l.drop i)) := by
 have mixed : Tryd.prog.follows Departure.mixedOrders = true := by kernel_rfl
 obtain ⟨i0,hi0,hz0,hzs,hzb⟩ : ∃ i0,Tryd.prog.info? 40 = some i0 ∧ i0.zero = some (.agg #[(.int .i64 0),(.int .u64 0)]) ∧ i0.size = 2 ∧ i0.bytes = 16 := by
  obtain ⟨i0,h0,h1⟩ := Option.map_eq_some_iff.1 info40
  simp only [Prod.mk.injEq] at h1
  exact ⟨i0,h0,h1.1,h1.2.1,h1.2.2⟩
 have hel : (enc25 l).length = n * 2 := by rw [enc25_len,hn]
 have htl : (enc25 (l.take i)).length = i * 2 := by rw [enc25_len,List.length_take,hn,Nat.min_eq_left q72_]
 have hdl : (enc25 (l.drop i)).length = (n - i) * 2 := by rw [enc25_len,List.length_drop,hn]
 have htd : enc25 l = enc25 (l.take i) ++ enc25 (l.drop i) := by rw [← enc25_app,List.take_append_drop]
 have hdr : enc25 (l.drop i) = (enc25 l).drop (i * 2) := by rw [htd,List.drop_left' htl]
 have htk : enc25 (l.take i) = (enc25 l).take (i * 2) := by rw [htd,List.take_left' htl]
 have hcs := row25_cell hb ht
 have hvs : ∀ j v,(c25 s)[j]? = some v → w.cell? ⟨vb,j,none⟩ = some v := row25_cell hv hvt
 have hz1 : ¬ ((1 : Int) = 0) := by omega
 have hz2 : ¬ ((i : Int) = (n : Int)) := by omega
 have hz3 : (c : Int) < (n : Int) + 1 := by omega
 have hsz := sz25
 have hbw : b < w.heap.size := (Array.getElem?_eq_some_iff.1 hb).1
 have hvw : vb < w.heap.size := (Array.getElem?_eq_some_iff.1 hv).1
 have hkk : (n : Int) + 1 - (i : Int) = ((n + 1 - i : Nat) : Int) := by omega
 have hik : i + (n + 1 - i) = n + 1 := by omega
 have hold : (Builtin.firstCells i0.size i (.slice (some ⟨b,0,none⟩) i c)).run Tryd.prog w.drew = .ok (enc25 (l.take i)).toArray w.drew := by
  rw [hzs]
  exact run_firstCells_some w.drew 2 i ⟨b,0,none⟩ i c (enc25 (l.take i)) htl (fun j v hj=>by
   rw [Addr.add_lit,Nat.zero_add]
   rw [htk,List.getElem?_take] at hj
   split at hj
   ·exact hcs j v hj
   ·cases hj)
 have hrz : ∀ ty,(Builtin.append_ #[22,3] ty #[.slice (some ⟨b,0,none⟩) i c,.int .i64 ((n : Int) + 1 - (i : Int))]).run Tryd.prog w =
   .ok (.slice (some ⟨w.heap.size,0,none⟩) (n + 1) (grownCap w (n + 1) c 40)) (w.drew.alloc (.cells ((enc25 (l.take i)).toArray ++ Builtin.zeroCells (Value.agg #[(.int .i64 0),(.int .u64 0)]).cells (n + 1 - i) ++ Builtin.zeroCells (Value.agg #[(.int .i64 0),(.int .u64 0)]).cells (grownCap w (n + 1) c 40 - (n + 1))) 40)) := fun ty=>by
  have h := Lib.run_append_grow_zeros w 22 3 ty 40 i0 _ .i64 .i64 Tryd.underlying22 Tryd.underlying3 hi0 hz0 (some ⟨b,0,none⟩) i c (enc25 (l.take i)) hold (n + 1 - i) q72_ q72_ q72_ q72_ (by rw [hzb];omega) (by rw [hzb,hik];exact growslice_fits hroom hbig)
  rw [hik] at h
  rw [hkk]
  exact h
 obtain ⟨G,hG⟩ : ∃ G,G = grownCap w (n + 1) c 40 := ⟨_,rfl⟩
 have hGn : n + 1 ≤ G := by rw [hG];exact grownCap_ge w _ _ _
 have hGm : G ≤ maxLen := by rw [hG];exact grownCap_le_maxLen w (n + 1) c 40 (by unfold maxLen;omega)
 obtain ⟨Z,hZ⟩ : ∃ Z,Z = (Builtin.zeroCells (Value.agg #[(.int .i64 0),(.int .u64 0)]).cells (n + 1 - i)).toList ++ (Builtin.zeroCells (Value.agg #[(.int .i64 0),(.int .u64 0)]).cells (G - (n + 1))).toList := ⟨_,rfl⟩
 obtain ⟨ROW,hROW⟩ : ∃ ROW : Array Value,ROW = (enc25 (l.take i)).toArray ++ Builtin.zeroCells (Value.agg #[(.int .i64 0),(.int .u64 0)]).cells (n + 1 - i) ++ Builtin.zeroCells (Value.agg #[(.int .i64 0),(.int .u64 0)]).cells (G - (n + 1)) := ⟨_,rfl⟩
 have hRZ : ROW = (enc25 (l.take i) ++ Z).toArray := by
  rw [hROW,hZ]
  apply Array.ext'
  simp
 have hRs : (enc25 (l.take i) ++ Z).length = G * 2 := by
  have e2 : (Value.agg #[(.int .i64 0),(.int .u64 0)]).cells.size = 2 := by rfl
  rw [hZ]
  simp only [List.length_append,Array.length_toList,size_zeroCells,e2,htl]
  omega
 have hRl : ROW.size = G * 2 := by rw [hRZ,List.size_toArray,hRs]
 rw [← hG] at hrz
 rw [← hROW] at hrz
 refine (show Calls Tryd.prog 25 _ w fun e w'=>e = .returned (.slice (some ⟨w.heap.size,0,none⟩) (n + 1) G) ∧ w' = (((w.alloc (.cells ROW 40)).drew.setCells w.heap.size (i * 2) (c25 s)).drew).setCells w.heap.size ((i + 1) * 2) (enc25 (l.drop i)) from ?_).mono (fun e w' h=>⟨G,ROW,hGn,hGm,⟨Z,hRZ,hRs⟩,h.1,h.2⟩)
 obtain ⟨W1,hW1⟩ : ∃ W1,W1 = w.drew.alloc (.cells ROW 40) := ⟨_,rfl⟩
 rw [← hW1] at hrz
 have hN : ∀ j,j < ROW.size → (W1.cell? ⟨w.heap.size,j,none⟩).isSome = true := fun j hj=>by
  rw [hW1,World.cell?_alloc_at (w := w.drew) ROW _ w.heap.size j rfl,Array.getElem?_eq_getElem q72_];rfl
 have hNf : ∀ j,W1.frozen? ⟨w.heap.size,j,none⟩ = false := fun j=>by rw [hW1];exact World.frozen?_alloc_at (w := w.drew) ROW _ w.heap.size j rfl
 have hOb : ∀ j v,w.cell? ⟨b,j,none⟩ = some v → W1.cell? ⟨b,j,none⟩ = some v := fun j v h=>by rw [hW1,World.cell?_alloc_past (w := w.drew) _ b j hbw];exact h
 have hOv : ∀ j v,w.cell? ⟨vb,j,none⟩ = some v → W1.cell? ⟨vb,j,none⟩ = some v := fun j v h=>by rw [hW1,World.cell?_alloc_past (w := w.drew) _ vb j hvw];exact h
 have h1s : ∀ u ∈ c25 s,u.oneCell' = true := by intro u hu;simp [c25] at hu;rcases hu with rfl|rfl <;> rfl
 have hcpA : ∀ (W : World),(∀ x,W.cell? x = W1.cell? x) → (∀ x,W.frozen? x = W1.frozen? x) → ∀ ty dc,(Builtin.copy_ #[22,22] ty #[.slice (some ⟨w.heap.size,i * 2,none⟩) (n + 1 - i) dc,.slice (some ⟨vb,0,none⟩) 1 vc]).run Tryd.prog W = .ok (goInt ((1 : Nat) : Int)) (W.setCells w.heap.size (i * 2) (c25 s)) := fun W hWc hWf ty dc =>
  run_copy2 W _ _ ty 40 w.heap.size (i * 2) (n + 1 - i) dc ⟨vb,0,none⟩ 1 vc (c25 s) 1 Tryd.underlying22 hsz q85_ rfl
   (fun j v hj=>by rw [Addr.add_lit,hWc,Nat.zero_add];exact hOv _ v (hvs j v hj))
   (fun j hj=>by rw [hWc];exact hN _ (by simp [c25] at hj;omega)) (fun j hj=>by rw [hWf];exact hNf _) h1s
 have hbN : b ≠ w.heap.size := by omega
 have hcpB : ∀ (W : World),(∀ x,W.cell? x = (W1.setCells w.heap.size (i * 2) (c25 s)).cell? x) → (∀ x,W.frozen? x = (W1.setCells w.heap.size (i * 2) (c25 s)).frozen? x) → ∀ ty dc sc,(Builtin.copy_ #[22,22] ty #[.slice (some ⟨w.heap.size,(i + 1) * 2,none⟩) (n - i) dc,.slice (some ⟨b,i * 2,none⟩) (n - i) sc]).run Tryd.prog W = .ok (goInt ((n - i : Nat) : Int)) (W.setCells w.heap.size ((i + 1) * 2) (enc25 (l.drop i))) := fun W hWc hWf ty dc sc =>
  run_copy2 W _ _ ty 40 w.heap.size ((i + 1) * 2) (n - i) dc ⟨b,i * 2,none⟩ (n - i) sc (enc25 (l.drop i)) (n - i) Tryd.underlying22 hsz q85_ hdl
   (fun j v hj=>by
    rw [Addr.add_lit,hWc,World.cell?_setCells_out _ _ _ _ _ (fun h _=>absurd h hbN)]
    rw [hdr,List.getElem?_drop] at hj
    exact hOb _ v (hcs _ v hj))
   (fun j hj=>by rw [hWc];exact isSome_setCells _ _ _ _ (fun t ht=>hN _ (by simp [c25] at ht;omega)) _ (hN _ q72_))
   (fun j hj=>by rw [hWf,World.frozen?_setCells];exact hNf _) (enc25_one _)
 subst hW1
 have hE1 : ∀ x,((w.alloc (.cells ROW 40)).drew).cell? x = (w.drew.alloc (.cells ROW 40)).cell? x := fun x=>rfl
 have hE2 : ∀ x,((w.alloc (.cells ROW 40)).drew).frozen? x = (w.drew.alloc (.cells ROW 40)).frozen? x := fun x=>rfl
 have hF1 : ∀ x,(((w.alloc (.cells ROW 40)).drew.setCells w.heap.size (i * 2) (c25 s)).drew).cell? x = ((w.drew.alloc (.cells ROW 40)).setCells w.heap.size (i * 2) (c25 s)).cell? x := fun x=>rfl
 have hF2 : ∀ x,(((w.alloc (.cells ROW 40)).drew.setCells w.heap.size (i * 2) (c25 s)).drew).frozen? x = ((w.drew.alloc (.cells ROW 40)).setCells w.heap.size (i * 2) (c25 s)).frozen? x := fun x=>rfl
 have hGi : ¬ (G = i) := by omega
 have hGim : ¬ (G = i + 1) := by omega
 have hci : ¬ (c = i) := by omega
 have hb1 : (0 : Int) ≤ (i : Int) + 1 := by omega
 have hin : i ≤ n := by omega
 have htn : ((i : Int) + 1).toNat = i + 1 := by omega
 have hb3 : (i : Int) ≤ (n : Int) := by omega
 have hG63 : G ≤ 9223372036854775807 := by unfold maxLen at hGm;omega
 have hle1 : i ≤ 4611686018427387904 := by omega
 have hle2 : n ≤ 4611686018427387904 := by omega
 clear hkk hik hold hROW hG hRl hRZ hRs hZ hel htl hdl htd hdr htk
 have hw1 := i64_one i hle1
 have hw2 := i64_one n hle2
 clear hle1 hle2
 go_enter Tryd.func25,Tryd.ntmps25
 go_wp2_with (first
  | (at_builtin;refine Lib.wpList_append_run _ rfl _ _ _ _ rfl _ _ rfl rfl _ _ (hrz _) ?_)
  | (at_builtin;refine wpList_copy_runI _ rfl _ _ 22 22 rfl _ _ rfl rfl (hcpA _ hE1 hE2 _ _) ?_))
 go_region_law_o (refine step_copy_runI rfl _ _ 22 22 rfl (.slice (some ⟨w.heap.size,(i + 1) * 2,none⟩) (n - i) (G - (i + 1))) (.slice (some ⟨b,i * 2,none⟩) (n - i) (c - i)) (by simp [Act.eval,Act.put]) (by simp [Act.eval,Act.put]) (hcpB _ hF1 hF2 3 (G - (i + 1)) (c - i)) ?_)
 go_wp2
 go_ret
 exact ⟨rfl,rfl⟩
def slices_Insert.f (l0 : List S40) (a1 : Int) (l2 : List S40) : Option (List S40) := if l2.length = 1 then (if 0 ≤ a1 then (if a1 ≤ (l0.length : Int) then (if l0.length < 1000000000 then some (l0.take a1.toNat ++ l2 ++ l0.drop a1.toNat) else none) else none) else none) else none
set_option maxHeartbeats 4000000 in
theorem ins_end (P0_ P2_ : Nat → Prop) (u9000_ : Value) (l0 : List S40) (A2 : Option Addr) (c2 : Nat) (s : S40) (w0 w : World) (hB : Below w0.heap.size w0 w) (ho0 : Kd.R k40 40 w w0.heap.size P0_ u9000_ l0)
  (hr2 : Kd.C k40 w A2 1 [s]) (hc2 : 1 ≤ c2) (hlim : l0.length < 1000000000) :
  Calls Tryd.prog 25 #[u9000_,.int .i64 (l0.length : Int),.slice A2 1 c2] w fun e w'=>∃ v0_ : Value,e = .returned (v0_) ∧ Kd.R k40 40 w' w0.heap.size (fun k_=>((P0_ k_ ∨ P2_ k_) ∨ w.heap.size ≤ k_)) v0_ (l0 ++ [s]) ∧ Below w0.heap.size w0 w' ∧ Kept w w' (fun k_=>(P0_ k_ ∨ P2_ k_)) := by
 have hu40 := Tryd.underlying40
 obtain ⟨A0,c0,rfl⟩ := Kd.R_slice ho0
 have hle := (Kd.R_reads' ho0).2.1
 have HO0 := Aside0.mk (Kd.R_mono (ok' := fun k_=>((P0_ k_ ∨ P2_ k_) ∨ w.heap.size ≤ k_)) ho0 (fun k_ hk=>.inl (.inl hk)))
 have hown : ∀ k,(Value.slice A0 l0.length c0).ownBlock = some k → P0_ k := ho0.1
 have HP0 := Aside0.mk hown
 have HR2 := Aside0.mk hr2
 have HB := Aside0.mk hB
 have LM := Aside0.mk hlim
 have hz1 : ¬ ((1 : Int) = 0) := by omega
 have h0n : (0 : Int) ≤ (l0.length : Int) := by omega
 clear ho0 hr2 hB hown hlim
 go_enter Tryd.func25,Tryd.ntmps25
 all_goals go_wp2_with ((with_reducible refine gate_builtin (b := .append) (xs := #[.tmp 23,.tmp 24]) rfl ?_);at_builtin;refine Kd.R_append_rows k40 (w0 := w0) w0.heap.size rfl (.tmp 23) (.tmp 24) 22 40 (.agg #[(.int .i64 0),(.int .u64 0)]) 16 rfl Tryd.underlying22 info40 rfl (by decide) q72_ (.slice A0 l0.length c0) l0 [s] A2 1 c2 (fun k_=>((P0_ k_ ∨ P2_ k_) ∨ w.heap.size ≤ k_)) (fun _=>False) rfl rfl HO0.out HR2.out (fun _ _ h=>h) (fun _ h=>h.elim) (fun k hk=>.inr hk) HB.out HB.out.size (by have := LM.out;omega) ?_;intro v1 w1 ho hb hg hat;have HO1 := Aside0.mk ho;have HB1 := Aside0.mk hb;have HG := Aside0.mk hg;clear ho hb hg hat)
 all_goals go_ret
 all_goals exact ⟨_,rfl,HO1.out,HB1.out,Kept.of_grown HG.out (Kept.refl w _) (fun k hk=>.inl (.inl (HP0.out k hk)))⟩
theorem shift_list (L A B S : List Value) (i n : Nat) (hA : A.length = i * 2) (hB : B.length = (n - i) * 2) (hi : i < n) (ht : L.take (n * 2) = A ++ B) (hL : (n + 1) * 2 ≤ L.length) (hS : S.length = 2) :
  ((L.take ((i + 1) * 2) ++ B ++ L.drop ((i + 1) * 2 + B.length)).take (i * 2) ++ S ++ (L.take ((i + 1) * 2) ++ B ++ L.drop ((i + 1) * 2 + B.length)).drop (i * 2 + S.length)).take ((n + 1) * 2) = A ++ S ++ B := by
 have hA2 : L.take (i * 2) = A := by
  have := congrArg (List.take (i * 2)) ht
  rw [List.take_take,Nat.min_eq_left q72_,List.take_left' hA] at this
  exact this
 have h1 : (L.take ((i + 1) * 2)).length = (i + 1) * 2 := by rw [List.length_take];omega
 have e1 : (L.take ((i + 1) * 2) ++ B ++ L.drop ((i + 1) * 2 + B.length)).take (i * 2) = A := by
  rw [List.append_assoc,List.take_append_of_le_length q72_,List.take_take,Nat.min_eq_left q72_,hA2]
 have e2 : (L.take ((i + 1) * 2) ++ B ++ L.drop ((i + 1) * 2 + B.length)).drop (i * 2 + S.length) = B ++ L.drop ((i + 1) * 2 + B.length) := by
  rw [List.append_assoc,List.drop_left' (by rw [h1,hS];omega)]
 rw [e1,e2,← List.append_assoc,List.take_left' (by simp only [List.length_append];omega)]
theorem grow_list (A Z B S : List Value) (i n : Nat) (hA : A.length = i * 2) (hB : B.length = (n - i) * 2) (hi : i < n) (hZ : (n + 1) * 2 ≤ (A ++ Z).length) (hS : S.length = 2) :
  (((A ++ Z).take (i * 2) ++ S ++ (A ++ Z).drop (i * 2 + S.length)).take ((i + 1) * 2) ++ B ++ ((A ++ Z).take (i * 2) ++ S ++ (A ++ Z).drop (i * 2 + S.length)).drop ((i + 1) * 2 + B.length)).take ((n + 1) * 2) = A ++ S ++ B := by
 have e1 : (A ++ Z).take (i * 2) = A := List.take_left' hA
 have e2 : (A ++ S ++ (A ++ Z).drop (i * 2 + S.length)).take ((i + 1) * 2) = A ++ S := List.take_left' (by rw [List.length_append];omega)
 rw [e1,e2,List.take_left' (by simp only [List.length_append];omega)]
set_option maxHeartbeats 4000000 in
theorem slices_Insert.calls (P0_ : Nat → Prop) (u9000_ : Value) (l0 : List S40) (a1 : Int) (P2_ : Nat → Prop) (u9002_ : Value) (l2 : List S40) (r : List S40) (w0 w : World) (hB : Below w0.heap.size w0 w) (ho0 : Kd.R k40 40 w w0.heap.size P0_ u9000_ l0) (hp0_2 : ∀ k_, P0_ k_ → ¬ P2_ k_)
  (ho2 : Kd.R k40 40 w w0.heap.size P2_ u9002_ l2) (hp2_0 : ∀ k_,P2_ k_ → ¬ P0_ k_) (h : slices_Insert.f l0 a1 l2 = some r) :
  Calls Tryd.prog 25 #[u9000_,.int .i64 a1,u9002_] w fun e w'=>∃ v0_ : Value,e = .returned (v0_) ∧ Kd.R k40 40 w' w0.heap.size (fun k_=>((P0_ k_ ∨ P2_ k_) ∨ w.heap.size ≤ k_)) v0_ r ∧ Below w0.heap.size w0 w' ∧ Kept w w' (fun k_=>(P0_ k_ ∨ P2_ k_)) := by
 unfold slices_Insert.f at h
 by_cases g1 : l2.length = 1
 case neg=>rw [if_neg g1] at h;exact absurd h (by simp)
 rw [if_pos g1] at h
 by_cases g2 : 0 ≤ a1
 case neg=>rw [if_neg g2] at h;exact absurd h (by simp)
 rw [if_pos g2] at h
 by_cases g3 : a1 ≤ (l0.length : Int)
 case neg=>rw [if_neg g3] at h;exact absurd h (by simp)
 rw [if_pos g3] at h
 by_cases g4 : l0.length < 1000000000
 case neg=>rw [if_neg g4] at h;exact absurd h (by simp)
 rw [if_pos g4] at h
 obtain rfl := Option.some.inj h
 clear h
 obtain ⟨i,rfl⟩ := Int.eq_ofNat_of_zero_le g2
 rw [Int.toNat_natCast]
 obtain ⟨s,rfl⟩ : ∃ s,l2 = [s] := by
  match l2,g1 with
  | [s],_=>exact ⟨s,rfl⟩
 rcases R25_open ho2 with ⟨_,hnil⟩|⟨vb,vc,vcur,rfl,hPv,hbv,hv,hlv,hmv,hsv,htv⟩
 ·cases hnil
 have hvt : vcur.toList.take 2 = c25 s := htv
 by_cases hin : i = l0.length
 ·subst hin
  rw [List.take_length,List.drop_length,List.append_nil]
  exact ins_end P0_ P2_ u9000_ l0 _ vc s w0 w hB ho0 (Kd.R_reads' ho2).2.2 hlv g4
 ·have hi : i < l0.length := by omega
  rcases R25_open ho0 with ⟨_,hnil⟩|⟨b,c,cur,rfl,hPb,hbb,hb,hlb,hmb,hsb,htb⟩
  ·rw [hnil] at hi;simp at hi
  have hvb : vb ≠ b := fun e=>hp0_2 b hPb (e ▸ hPv)
  have hA : (enc25 (l0.take i)).length = i * 2 := by rw [enc25_len,List.length_take,Nat.min_eq_left q72_]
  have hD : (enc25 (l0.drop i)).length = (l0.length - i) * 2 := by rw [enc25_len,List.length_drop]
  have hE : enc25 l0 = enc25 (l0.take i) ++ enc25 (l0.drop i) := by rw [← enc25_app,List.take_append_drop]
  have hF : enc25 (l0.take i ++ [s] ++ l0.drop i) = enc25 (l0.take i) ++ c25 s ++ enc25 (l0.drop i) := by
   rw [enc25_app,enc25_app]
   congr 2
  have hlen : (l0.take i ++ [s] ++ l0.drop i).length = l0.length + 1 := by simp;omega
  have hcl : cur.toList.length = c * 2 := by rw [Array.length_toList,hsb]
  have hbw : b < w.heap.size := (Array.getElem?_eq_some_iff.1 hb).1
  by_cases hroom : l0.length + 1 ≤ c
  ·refine (ins_shift w b l0.length c i cur l0 vb vc vcur s hi rfl hroom (by simpa [maxLen] using hmb) q72_ hvb hb hsb htb hv hvt).mono (fun e w' hh=>?_)
   obtain ⟨rfl,rfl⟩ := hh
   obtain ⟨cur1,h1,s1,t1⟩ := setCells_row (e := 40) (enc25 (l0.drop i)) ((i + 1) * 2) w.drew cur hb (by rw [hD];omega)
   obtain ⟨cur2,h2,s2,t2⟩ := setCells_row (e := 40) (c25 s) (i * 2) _ cur1 h1 (by have : (c25 s).length = 2 := rfl;omega)
   have q1 := setCells_same b (enc25 (l0.drop i)) ((i + 1) * 2) w.drew
   have q2 := setCells_same b (c25 s) (i * 2) (w.drew.setCells b ((i + 1) * 2) (enc25 (l0.drop i)))
   have far : ∀ k,k ≠ b → ((w.drew.setCells b ((i + 1) * 2) (enc25 (l0.drop i))).setCells b (i * 2) (c25 s)).heap[k]? = w.heap[k]? := fun k hk=>by
    rw [setCells_far _ _ k hk,setCells_far _ _ k hk];rfl
   refine ⟨_,rfl,?_,?_,?_⟩
   ·have hR := R25_mk (l := l0.take i ++ [s] ++ l0.drop i) (ok := fun k_=>((P0_ k_ ∨ P2_ k_) ∨ w.heap.size ≤ k_)) (cap := c) (.inl (.inl hPb)) hbb h2 q72_ hmb (by rw [s2,s1,hsb]) (by
     rw [t2,t1,hlen,hF]
     exact shift_list cur.toList _ _ (c25 s) i l0.length hA hD hi (by rw [htb,hE]) q72_ rfl)
    rw [hlen] at hR
    exact hR
   ·exact hB.trans ⟨q2.1.trans q1.1,q2.2.1.trans q1.2.1,q2.2.2.1.trans q1.2.2.1,by rw [q2.2.2.2,q1.2.2.2];exact Nat.le_refl _,fun k hk=>far k q72_⟩
   ·exact ⟨by rw [q2.2.2.2,q1.2.2.2];exact Nat.le_refl _,fun k _ hn=>far k (fun e=>hn (.inl (e ▸ hPb)))⟩
  ·refine (ins_grow w b l0.length c i cur l0 vb vc vcur s hi rfl hlb q72_ q72_ hb hsb htb hv hvt).mono (fun e w' hh=>?_)
   obtain ⟨G,ROW,hG,hGm,⟨Z,rfl,hZ⟩,rfl,rfl⟩ := hh
   have hnew : (w.alloc (.cells (enc25 (l0.take i) ++ Z).toArray 40)).drew.heap[w.heap.size]? = some (.cells (enc25 (l0.take i) ++ Z).toArray 40 (0,0)) := heap_alloc_new w _
   have hZs : (enc25 (l0.take i) ++ Z).toArray.size = G * 2 := by rw [List.size_toArray,hZ]
   obtain ⟨cur1,h1,s1,t1⟩ := setCells_row (e := 40) (c25 s) (i * 2) _ _ hnew (by have : (c25 s).length = 2 := rfl;omega)
   have h1' : ((w.alloc (.cells (enc25 (l0.take i) ++ Z).toArray 40)).drew.setCells w.heap.size (i * 2) (c25 s)).drew.heap[w.heap.size]? = some (.cells cur1 40 (0,0)) := h1
   obtain ⟨cur2,h2,s2,t2⟩ := setCells_row (e := 40) (enc25 (l0.drop i)) ((i + 1) * 2) _ cur1 h1' (by rw [hD];omega)
   have q1 := setCells_same w.heap.size (c25 s) (i * 2) (w.alloc (.cells (enc25 (l0.take i) ++ Z).toArray 40)).drew
   have q2 := setCells_same w.heap.size (enc25 (l0.drop i)) ((i + 1) * 2) ((w.alloc (.cells (enc25 (l0.take i) ++ Z).toArray 40)).drew.setCells w.heap.size (i * 2) (c25 s)).drew
   have qs : w.heap.size ≤ (w.alloc (.cells (enc25 (l0.take i) ++ Z).toArray 40)).heap.size := (below_alloc (Below.refl w.heap.size w) _).size
   have far : ∀ k,k < w.heap.size → (((w.alloc (.cells (enc25 (l0.take i) ++ Z).toArray 40)).drew.setCells w.heap.size (i * 2) (c25 s)).drew.setCells w.heap.size ((i + 1) * 2) (enc25 (l0.drop i))).heap[k]? = w.heap[k]? := fun k hk=>by
    rw [setCells_far _ _ k q72_]
    show ((w.alloc (.cells (enc25 (l0.take i) ++ Z).toArray 40)).drew.setCells w.heap.size (i * 2) (c25 s)).heap[k]? = _
    rw [setCells_far _ _ k q72_]
    exact (below_alloc (Below.refl w.heap.size w) _).block k hk
   have size : w.heap.size ≤ (((w.alloc (.cells (enc25 (l0.take i) ++ Z).toArray 40)).drew.setCells w.heap.size (i * 2) (c25 s)).drew.setCells w.heap.size ((i + 1) * 2) (enc25 (l0.drop i))).heap.size := by
    rw [q2.2.2.2]
    show _ ≤ ((w.alloc (.cells (enc25 (l0.take i) ++ Z).toArray 40)).drew.setCells w.heap.size (i * 2) (c25 s)).heap.size
    rw [q1.2.2.2]
    exact qs
   refine ⟨_,rfl,?_,?_,?_⟩
   ·have hR := R25_mk (l := l0.take i ++ [s] ++ l0.drop i) (ok := fun k_=>((P0_ k_ ∨ P2_ k_) ∨ w.heap.size ≤ k_)) (cap := G) (.inr (Nat.le_refl _)) hB.size h2 q72_ hGm (by rw [s2,s1,hZs]) (by
     rw [t2,t1,hlen,hF]
     exact grow_list _ Z _ (c25 s) i l0.length hA hD hi q72_ rfl)
    rw [hlen] at hR
    exact hR
   ·exact hB.trans ⟨q2.1.trans q1.1,q2.2.1.trans q1.2.1,q2.2.2.1.trans q1.2.2.1,size,fun k hk=>far k (Nat.lt_of_lt_of_le hk hB.size)⟩
   ·exact ⟨size,fun k hk _=>far k hk⟩

end Go.Proofs.YtbedpnklnamnhaaDoor.PG
