/- The machine side of these statements: what each Go function computes as a plain function, and that its call computes just that. Written by a program of mine (wip/drive.py). No conditions. -/
import Derived.Test.YthcjcmgdblhhfaaPVx0
import Derived.Test.YthcjcmgdblhhfaaPVx11
namespace Go.Proofs.Ythcjcmgdblhhfaa.PV
open Go.RowKit Go.Proofs.YthcjcmgdblhhfaaW.PrintWords Go.Proofs.YthcjcmgdblhhfaaW.PrintLast Go.Proofs.YthcjcmgdblhhfaaW.PrintMore
attribute [local go_sem] max2_int min2_int max_two min_two max_three min_three max_four min_four   -- for this text's walks alone
set_option linter.unusedVariables false
set_option linter.unusedSimpArgs false

/-! ### snappy_Pack: function 15 -/
/-- The best one of some places, from the last on. -/
def bestGo (k : Nat) (s : ByteArray) (at_ : Int) : List Int → Int → Int → Option (Int × Int)
 | [],off,n=>some (off,n)
 | q :: r,off,n=>if at_ - q ≤ 65535 then (if n < 64 then ((snappy_alike.f k s q at_).bind fun m=>if m > n then bestGo k s at_ r (at_ - q) m else bestGo k s at_ r off n) else some (off,n)) else some (off,n)
def bestF (k : Nat) (s : ByteArray) (l : List Int) (at_ : Int) : Option (Int × Int) := if at_ + 4 > (s.size : Int) then some (0, 0) else bestGo k s at_ l.reverse 0 0
/-- What a map has for a key: nothing, or a row of numbers. -/
def MapHas (D : DataW Unit) (kb : List UInt8) (l : List Int) : Prop := (D.atKey (.string kb) .nil = .nil ∧ l = []) ∨ D.atKey (.string kb) .nil = .slice (ChangeShapes.lits .i64 l) []
theorem lits_inj {a b : List Int} (h : (ChangeShapes.lits .i64 a : List (DataW Unit)) = ChangeShapes.lits .i64 b) : a = b := by
 unfold ChangeShapes.lits at h
 exact (List.map_inj_right (fun x y e=>by cases e;rfl)).1 h
theorem MapHas.eq {w : World} {base : Nat} {e : TypeId} {D : DataW Unit} {kb : List UInt8} {l zs : List Int} {v : Value} (h : MapHas D kb l) (hat : D.atKey (.string kb) .nil = rowDatum .i64 v zs) (ho : w.ownsInts base e .i64 v zs) : zs = l := by
 rcases ho.datum (H := Unit) with ⟨h1,h2⟩|h1
 ·rw [h1] at hat
  rcases h with ⟨_,h3⟩|h3
  ·rw [h2,h3]
  ·rw [h3] at hat;cases hat
 ·rw [h1] at hat
  rcases h with ⟨h3,_⟩|h3
  ·rw [h3] at hat;cases hat
  ·rw [h3] at hat;injection hat with e1;exact (lits_inj e1).symm
theorem zero68 (w : World) : (zeroValue 68).run Try.prog w = .ok (.slice none 0 0) w := by kernel_rfl
theorem keyed9 : Maps.Keyed Try.prog 9 := Maps.string_keyed Try.underlying9

set_option maxHeartbeats 8000000 in
set_option maxRecDepth 100000 in
theorem best_any (k : Nat) (s : ByteArray) (at_ : Nat) (w : World) (D : DataW Unit) (base b n : Nat) (hown : w.ownsGroups Try.prog 9 base 3 .i64 b n D) (hn : n ≤ 1000000) (l : List Int)
  (hl : at_ + 4 ≤ s.size → MapHas D (s.extract at_ (at_ + 4)).data.toList l) (hb : ∀ q ∈ l,0 ≤ q ∧ q < (at_ : Int)) (r1 r2 : Int) (h : bestF k s l at_ = some (r1,r2)) (hs : s.size ≤ 65536) (hat : at_ ≤ s.size) :
  Calls Try.prog 40 #[.map (some b),.string s,.int .i64 at_] w fun e w'=>e = .returned (.tuple #[.int .i64 r1,.int .i64 r2]) ∧ Drawn0 w w' := by
 have HOWN := Aside0.mk hown
 have HL := Aside0.mk hl
 have HBND := Aside0.mk hb
 have HH := Aside0.mk h
 clear hown hl hb h
 by_cases h4 : at_ + 4 ≤ s.size
 ·have hlt : decide ((s.size : Int) < (at_ : Int) + 4) = false := by simp;omega
  have hkey : keyOf Try.prog 9 (.string (s.extract at_ (at_ + 4))) = some (.string (s.extract at_ (at_ + 4)).data.toList) := Go.WideMaps.keyOf_string_mk Try.underlying9 (by simp [ByteArray.size_extract,maxLen];omega)
  obtain ⟨v,zs,hrun,hat2,hoi,hzl,_⟩ := HOWN.out.at keyed9 Try.underlying66 (zero68 w) (show n < maxLen by unfold maxLen;omega) hkey
  obtain rfl := (HL.out h4).eq hat2 hoi
  have H := HH.out
  unfold bestF at H
  rw [if_neg q75_] at H
  have HGO := Aside0.mk H
  clear H HH HL HOWN hat2 hkey
  obtain ⟨A,cap,rfl,hcell⟩ : ∃ A cap,v = .slice A zs.length cap ∧ ∀ i,i < zs.length → ∃ ad,A = some ad ∧ w.cell? (ad.add i) = some (.int .i64 (zs.getD i 0)) := by
   rcases hoi.1.2 with ⟨rfl,h0⟩|⟨g,cap,cur,rfl,hg⟩
   ·exact ⟨none,0,by rw [h0],fun i hi=>by rw [h0] at hi;omega⟩
   ·exact ⟨some ⟨g,0,none⟩,cap,rfl,fun i hi=>⟨_,rfl,hoi.1.cells (g := g) rfl i _ (by rw [List.getElem?_map,List.getElem?_eq_getElem hi];simp [List.getD,List.getElem?_eq_getElem hi])⟩⟩
  have HC := Aside0.mk hcell
  clear hcell hoi
  go_enter Try.func40,Try.ntmps40
  go_wp2_with fail
  go_loopg [6,7,9] zs.length (fun kq v6 v7 v9 w'=>∃ (j : Nat) (off m : Int),v6 = .int .i64 off ∧ v7 = .int .i64 m ∧ v9 = .int .i64 ((j : Int) - 1) ∧ j ≤ zs.length ∧ Aside0 (kq = j) ∧ Aside0 (bestGo k s at_ (zs.take j).reverse off m = some (r1,r2)) ∧ Drawn0 w w')
  case atStart=>exact ⟨zs.length,0,0,rfl,rfl,rfl,Nat.le_refl _,⟨rfl⟩,⟨by rw [List.take_length];exact HGO.out⟩,Drawn0.refl _⟩
  case round =>
   clear hrun
   obtain ⟨j,off,m,rfl,rfl,rfl,hj,HK,HG,⟨nd,rfl⟩⟩ := hrel
   cases j with
   | zero =>
    rw [show ((0 : Nat) : Int) - 1 = -1 from rfl]
    have H := HG.out
    rw [List.take_zero,List.reverse_nil] at H
    simp only [bestGo,Option.some.injEq,Prod.mk.injEq] at H
    obtain ⟨rfl,rfl⟩ := H
    clear HG HK
    go_wp2
    go_ret2
    exact ⟨rfl,⟨_,rfl⟩⟩
   | succ i =>
    rw [show ((i + 1 : Nat) : Int) - 1 = (i : Int) from by omega]
    have hi : i < zs.length := by omega
    obtain ⟨ad,e1,hx⟩ := HC.out i hi
    cases e1
    have H := HG.out
    rw [List.take_succ_eq_append_getElem hi,List.reverse_append,List.reverse_singleton,List.singleton_append] at H
    have hqb := HBND.out zs[i] (List.getElem_mem hi)
    rw [show zs.getD i 0 = zs[i] from by simp [List.getD,List.getElem?_eq_getElem hi]] at hx
    obtain ⟨q,hq⟩ : ∃ q,zs[i] = q := ⟨_,rfl⟩
    rw [hq] at hx H hqb
    clear hq HG
    simp only [bestGo] at H
    have hqb0 := hqb.1
    have hqb1 := hqb.2
    clear hqb
    have h0i : decide (0 ≤ (i : Int)) = true := by simp
    have hin : decide ((i : Int) < (zs.length : Int)) = true := by simp;omega
    have hdl : (at_ : Int) - q ≤ 65536 := by omega
    by_cases h1 : (at_ : Int) - q ≤ 65535
    ·rw [if_pos h1] at H
     have h1' : decide ((at_ : Int) - q ≤ 65535) = true := decide_eq_true h1
     by_cases h2 : m < 64
     ·rw [if_pos h2] at H
      have h2' : decide (m < 64) = true := decide_eq_true h2
      obtain ⟨mm,hm,H⟩ := Option.bind_eq_some_iff.mp H
      have HM := Aside0.mk hm
      clear hm
      by_cases h3 : mm > m
      ·rw [if_pos h3] at H
       have h3' : decide (m < mm) = true := decide_eq_true h3
       have H' := Aside0.mk H
       clear H h1 h2 h3
       go_wp2_with fail
       refine (snappy_alike.calls k s q at_ mm _ HM.out).mono ?_
       rintro e w2 ⟨rfl,⟨nd2,rfl⟩⟩
       go_wp2_with fail
       go_roundg i
       case measure=>have := HK.out;omega
       case rel=>exact ⟨i,_,_,rfl,rfl,by first|rfl|go_num,q75_,⟨rfl⟩,H',⟨_,by first|rfl|exact World.drewN_drewN _ _ _⟩⟩
      ·rw [if_neg h3] at H
       have h3' : decide (m < mm) = false := decide_eq_false h3
       have H' := Aside0.mk H
       clear H h1 h2 h3
       go_wp2_with fail
       refine (snappy_alike.calls k s q at_ mm _ HM.out).mono ?_
       rintro e w2 ⟨rfl,⟨nd2,rfl⟩⟩
       go_wp2_with fail
       go_roundg i
       case measure=>have := HK.out;omega
       case rel=>exact ⟨i,_,_,rfl,rfl,by first|rfl|go_num,q75_,⟨rfl⟩,H',⟨_,by first|rfl|exact World.drewN_drewN _ _ _⟩⟩
     ·rw [if_neg h2] at H
      have h2' : decide (m < 64) = false := decide_eq_false h2
      simp only [Option.some.injEq,Prod.mk.injEq] at H
      obtain ⟨rfl,rfl⟩ := H
      clear h1 h2
      go_wp2_with fail
      go_ret2
      exact ⟨rfl,⟨_,rfl⟩⟩
    ·rw [if_neg h1] at H
     have h1' : decide ((at_ : Int) - q ≤ 65535) = false := decide_eq_false h1
     simp only [Option.some.injEq,Prod.mk.injEq] at H
     obtain ⟨rfl,rfl⟩ := H
     clear h1
     go_wp2_with fail
     go_ret2
     exact ⟨rfl,⟨_,rfl⟩⟩
 ·have hlt : decide ((s.size : Int) < (at_ : Int) + 4) = true := by simp;omega
  have H := HH.out
  unfold bestF at H
  rw [if_pos q75_] at H
  simp only [Option.some.injEq,Prod.mk.injEq] at H
  obtain ⟨rfl,rfl⟩ := H
  clear HH HL HOWN HBND
  go_enter Try.func40,Try.ntmps40
  go_wp2
  go_ret2
  exact ⟨rfl,Drawn0.refl _⟩
theorem grown_set (w : World) (a : Addr) (u : Value) : w.grownBy (w.setCell a u) (some a.block) := ⟨rfl, rfl, rfl, by simp [World.setCell], fun k hk hne => Below.heap_setCell w a u k (fun e => hne (by rw [e]))⟩
/-- A literal's part, if it has a byte. -/
def litP (s : ByteArray) (a b : Nat) : List S35 := if a < b then [⟨false, s.extract a b, 0, 0⟩] else []
set_option maxHeartbeats 8000000 in
set_option maxRecDepth 100000 in
theorem pass_any (s : ByteArray) (fr to_ : Nat) (bf bo bs base : Nat) (vo : Value) (out : List S35) (w : World) (hs : s.size ≤ 65536) (ht : to_ ≤ s.size)
  (BF : w.heap[bf]? = some (.cells #[.int .i64 fr] 3 (0,0))) (BO : w.heap[bo]? = some (.cells #[vo] 30 (0,0))) (BS : w.heap[bs]? = some (.cells #[.string s] 9 (0,0)))
  (HO : Kd.R k35 35 w base (fun _=>True) vo out) (hbase : base ≤ w.heap.size) (hl : out.length ≤ 1000000) :
  Calls Try.prog 39 #[.int .i64 to_,.pointer (some ⟨bf,0,none⟩),.pointer (some ⟨bo,0,none⟩),.pointer (some ⟨bs,0,none⟩)] w fun e w'=>∃ (v1 : Value) (w1 : World),e = .returned (.tuple #[]) ∧ w'.heap[bo]? = some (.cells #[v1] 30 (0,0)) ∧ Kd.R k35 35 w' base (fun _=>True) v1 (out ++ litP s fr to_) ∧ w.grownBy w1 vo.ownBlock ∧ w1.grownBy w' (some bo) ∧ (v1.ownBlock = vo.ownBlock ∨ ∃ g,v1.ownBlock = some g ∧ w.heap.size ≤ g) := by
 have hu35 := Try.underlying35
 have hcf : w.cell? ⟨bf,0,none⟩ = some (.int .i64 fr) := (blk_cell BF 0).trans rfl
 have hco : w.cell? ⟨bo,0,none⟩ = some vo := (blk_cell BO 0).trans rfl
 have hcs : w.cell? ⟨bs,0,none⟩ = some (.string s) := (blk_cell BS 0).trans rfl
 have hfo := blk_frozen BO 0
 have HBF := Aside0.mk BF
 have HBO := Aside0.mk BO
 have HBS := Aside0.mk BS
 have HO := Aside0.mk HO
 clear BF BO BS
 by_cases hlt : fr < to_
 ·have h1 : decide ((fr : Int) < (to_ : Int)) = true := by simp;omega
  go_enter Try.func39,Try.ntmps39
  go_wp2_with fail
  have hle : fr ≤ to_ := by omega
  refine start_ (n := 9) (S := fun w'=>w'.cell? ⟨bo,0,none⟩ = some vo ∧ w'.cell? ⟨bs,0,none⟩ = some (.string s) ∧ w'.cell? ⟨bf,0,none⟩ = some (.int .i64 fr)) (ds := [7,8]) #[false,false,false,false,false,false,false,false,false] q9_ rfl rfl ⟨hco,hcs,hcf⟩ (fun hHeld=>?_);refine with_tab (T := rtab .any (opsOf Try.f39 1)) q9_ (fun HT_=>?_)
  have HO1 : Kd.R k35 35 w.drew base (fun _=>True) vo out := Kd.R_drew HO.out
  have BO1 : w.drew.heap[bo]? = some (.cells #[vo] 30 (0,0)) := blk_drew HBO.out
  have hgr : w.grownBy w.drew vo.ownBlock := ⟨rfl,rfl,rfl,Nat.le_refl _,fun _ _ _=>rfl⟩
  have hB1 : Below base w w.drew := below_drew1 (Below.refl base w)
  have hsz : base ≤ w.drew.heap.size ∧ w.heap.size ≤ w.drew.heap.size := ⟨hbase,Nat.le_refl _⟩
  obtain ⟨hco1,hcs1,hcf1⟩ := hHeld
  generalize w.drew = W at HO1 BO1 hgr hB1 hsz hco1 hcs1 hcf1 ⊢
  have hHeld : W.cell? ⟨bo,0,none⟩ = some vo ∧ W.cell? ⟨bs,0,none⟩ = some (.string s) ∧ W.cell? ⟨bf,0,none⟩ = some (.int .i64 fr) := ⟨hco1,hcs1,hcf1⟩
  refine pure_ (i := 3) (N := some 11) (v := ?_) (a' := ?_) #[false,false,false,true,false,false,false,false,false] rfl rfl (any_of HT_.out q9_) (fun _ _ _ h=>h) (Or.inl ⟨by rfl,?_⟩) ?_ ?_
  rotate_left
  ·intro w'
   go_simp
   with_reducible rfl
  rotate_left
  ·simp only [Act.put,List.setIfInBounds_toArray,List.set_cons_zero,List.set_cons_succ,i64_w,i32_w]
   rfl
  refine take_ (i := 0) (N := some 8) (v := ?_) (a' := ?_) #[true,false,false,true,false,false,false,false,false] rfl rfl (take_of HT_.out q9_) (fun _ _ _ h=>h) (Or.inl ⟨by rfl,?_⟩) hHeld ?_ ?_
  rotate_left
  ·rintro w' ⟨s0,s1,s2⟩
   go_simp
   with_reducible rfl
  rotate_left
  ·simp only [Act.put,List.setIfInBounds_toArray,List.set_cons_zero,List.set_cons_succ,i64_w,i32_w]
   rfl
  refine take_ (i := 1) (N := some 9) (v := ?_) (a' := ?_) #[true,true,false,true,false,false,false,false,false] rfl rfl (take_of HT_.out q9_) (fun _ _ _ h=>h) (Or.inl ⟨by rfl,?_⟩) hHeld ?_ ?_
  rotate_left
  ·rintro w' ⟨s0,s1,s2⟩
   go_simp
   with_reducible rfl
  rotate_left
  ·simp only [Act.put,List.setIfInBounds_toArray,List.set_cons_zero,List.set_cons_succ,i64_w,i32_w]
   rfl
  refine take_ (i := 2) (N := some 10) (v := ?_) (a' := ?_) #[true,true,true,true,false,false,false,false,false] rfl rfl (take_of HT_.out q9_) (fun _ _ _ h=>h) (Or.inl ⟨by rfl,?_⟩) hHeld ?_ ?_
  rotate_left
  ·rintro w' ⟨s0,s1,s2⟩
   go_simp
   with_reducible rfl
  rotate_left
  ·simp only [Act.put,List.setIfInBounds_toArray,List.set_cons_zero,List.set_cons_succ,i64_w,i32_w]
   rfl
  refine pure_ (i := 4) (N := some 12) (v := ?_) (a' := ?_) #[true,true,true,true,true,false,false,false,false] rfl rfl (any_of HT_.out q9_) (fun _ _ _ h=>h) (Or.inl ⟨by rfl,?_⟩) ?_ ?_
  rotate_left
  ·intro w'
   go_simp
   with_reducible rfl
  rotate_left
  ·simp only [Act.put,List.setIfInBounds_toArray,List.set_cons_zero,List.set_cons_succ,i64_w,i32_w]
   rfl
  refine pure_ (i := 5) (N := some 13) (v := ?_) (a' := ?_) #[true,true,true,true,true,true,false,false,false] rfl rfl (any_of HT_.out q9_) (fun _ _ _ h=>h) (Or.inl ⟨by rfl,?_⟩) ?_ ?_
  rotate_left
  ·intro w'
   go_simp
   with_reducible rfl
  rotate_left
  ·simp only [Act.put,List.setIfInBounds_toArray,List.set_cons_zero,List.set_cons_succ,i64_w,i32_w]
   rfl
  refine one_ (i := 6) (N := some 14) #[true,true,true,true,true,true,true,false,false] rfl rfl (one_of HT_.out q9_) (by decide) (fun K hK=>?_)
  refine value_ (w1 := ?_) (v := ?_) (by rfl) rfl ?_ ?_
  rotate_left 2
  ·go_simp
   constructor
   ·rfl
   ·rfl
  refine hK.out _ _ ⟨(World.cell?_alloc_lt _ _ _ (World.block_lt_of_cell? _ _ hco1)).trans hco1,(World.cell?_alloc_lt _ _ _ (World.block_lt_of_cell? _ _ hcs1)).trans hcs1,(World.cell?_alloc_lt _ _ _ (World.block_lt_of_cell? _ _ hcf1)).trans hcf1⟩ (fun hHeld=>?_)
  clear hK K
  refine norm_ (a' := ?_) ?_ ?_
  rotate_left
  ·show Act.put _ (some 14) _ = _
   simp only [Act.put,List.setIfInBounds_toArray,List.set_cons_zero,List.set_cons_succ,i64_w,i32_w]
   rfl
  refine last_ (i := 7) (N := some 15) #[true,true,true,true,true,true,true,true,false] rfl rfl (one_of HT_.out q9_) (by decide) (fun K hK=>?_)
  refine Kd.R_append_step k35 (w0 := w) base (by rfl) (.tmp 8) (.tmp 14) 30 35 (.agg #[(.bool false),(.string ⟨#[]⟩),(.int .i64 0),(.int .i64 0)]) 40 rfl Try.underlying30 info35 rfl (by decide) q75_ vo out (⟨false,s.extract fr to_,0,0⟩ : S35) [.bool false,.string (s.extract fr to_),.int .i64 0,.int .i64 0] (fun _=>True) (fun _=>False) rfl rfl ?aP (fun _ hk=>hk.elim) ?aF ?aO ?aB ?aS ?aL ?_
  (case aP=>exact k35_mkM _ _ _ (⟨false,s.extract fr to_,0,0⟩ : S35))
  (case aF=>exact (fun _ _=>trivial))
  (case aO=>exact HO1)
  (case aB=>exact hB1)
  (case aS=>exact hsz.1)
  (case aL=>omega)
  intro v3 w3 ho hb hg hat
  refine hK.out _ _ ?_
  clear hK K
  refine norm_ (a' := ?_) ?_ ?_
  rotate_left
  ·show Act.put _ (some 15) _ = _
   simp only [Act.put,List.setIfInBounds_toArray,List.set_cons_zero,List.set_cons_succ,i64_w,i32_w]
   rfl
  have hne : some bo ≠ vo.ownBlock := Kd.R_ne HO1 BO1 (by decide)
  have hbo3 : w3.heap[bo]? = some (.cells #[vo] 30 (0,0)) := blk_grown BO1 hg hne
  have hco3 : w3.cell? ⟨bo,0,none⟩ = some vo := (blk_cell hbo3 0).trans rfl
  have hfo3 := blk_frozen hbo3 0
  obtain ⟨A3,c3,e3⟩ := Kd.R_slice ho
  rw [List.length_append,List.length_singleton] at e3
  subst e3
  refine last_ (i := 8) (N := none) #[true,true,true,true,true,true,true,true,true] rfl rfl (one_of HT_.out q9_) (by decide) (fun K hK=>?_)
  refine skip_ (w1 := ?_) (by rfl) rfl ?_ ?_
  rotate_left
  ·go_simp
   rfl
  refine hK.out _ _ ?_
  clear hK K
  refine done_ (done_of HT_.out q9_) ?_
  try go_wp2
  first|go_end0|((try simp only [Exit.inBlock,Exit.then]);refine bodyPost_ret (results_none rfl _ _ _) rfl ?_)
  have hg2 : w3.grownBy (w3.setCell ⟨bo,0,none⟩ (.slice A3 (out.length + 1) c3)) (some bo) := grown_set _ _ _
  exact ⟨.slice A3 (out.length + 1) c3,w3,rfl,blk_put hbo3 0 _ rfl,by unfold litP;rw [if_pos hlt];exact Kd.R_set ho hbo3 (by decide) 0 _,hgr.trans hg,hg2,hat.imp id (fun ⟨g,e1,e2⟩=>⟨g,e1,Nat.le_trans hsz.2 e2⟩)⟩

 ·have h1 : decide ((fr : Int) < (to_ : Int)) = false := by simp;omega
  go_enter Try.func39,Try.ntmps39
  go_wp2_with fail
  first|go_end0|((try simp only [Exit.inBlock,Exit.then]);refine bodyPost_ret (results_none rfl _ _ _) rfl ?_)
  exact ⟨vo,w,rfl,HBO.out,by unfold litP;rw [if_neg hlt,List.append_nil];exact HO.out,World.grownBy.refl w _,World.grownBy.refl w _,.inl rfl⟩

def poss (s : ByteArray) (kb : List UInt8) (a : Nat) : List Int := ((List.range a).filter (fun q => decide (q + 4 ≤ s.size) && ((s.extract q (q + 4)).data.toList == kb))).map (fun q : Nat => (q : Int))
theorem poss_lt (s : ByteArray) (kb : List UInt8) (a : Nat) : ∀ q ∈ poss s kb a, 0 ≤ q ∧ q < (a : Int) := by
 intro q hq
 unfold poss at hq
 obtain ⟨x,hx,rfl⟩ := List.mem_map.1 hq
 have := List.mem_range.1 (List.mem_filter.1 hx).1
 omega
theorem poss_succ (s : ByteArray) (kb : List UInt8) (a : Nat) : poss s kb (a + 1) = poss s kb a ++ (if a + 4 ≤ s.size ∧ (s.extract a (a + 4)).data.toList = kb then [(a : Int)] else []) := by
 unfold poss
 rw [List.range_succ,List.filter_append,List.map_append]
 congr 1
 by_cases h : a + 4 ≤ s.size ∧ (s.extract a (a + 4)).data.toList = kb
 ·rw [if_pos h,List.filter_cons,if_pos (by rw [h.2];simp [h.1])];rfl
 ·rw [if_neg h]
  rw [List.filter_cons,if_neg (by simp only [Bool.and_eq_true,decide_eq_true_eq,beq_iff_eq];exact h)];rfl
theorem poss_len (s : ByteArray) (kb : List UInt8) (a : Nat) : (poss s kb a).length ≤ a := by
 unfold poss;rw [List.length_map];exact Nat.le_trans (List.length_filter_le _ _) (by simp)
def packGo (k : Nat) (s : ByteArray) : Nat → Nat → Nat → List S35 → Option (List S35)
 | 0,_,_,_=>none
 | f + 1,a,fr,out=>if a < s.size then ((bestF k s (poss s (s.extract a (a + 4)).data.toList a) a).bind fun r=>if 4 ≤ r.2 then (if r.2 ≤ 64 then packGo k s f (a + r.2.toNat) (a + r.2.toNat) (out ++ litP s fr a ++ [⟨true,⟨#[]⟩,r.1,r.2⟩]) else none) else packGo k s f (a + 1) fr out) else some (out ++ litP s fr s.size)
def snappy_Pack.f (k : Nat) (a0 : ByteArray) : Option (List (S35) × Int) := if a0.size > 65536 then some ([], 40) else (packGo k a0 (a0.size + 1) 0 0 []).bind fun l => some (l, 0)

/-! ### what stands in memory between the rounds -/
theorem groups_empty {w : World} {b base : Nat} (h : w.heap[b]? = some (.map #[] 0)) (hb : b < base) : w.ownsGroups (H := Unit) Try.prog 9 base 3 .i64 b 0 (.map []) :=
 ⟨#[],0,h,⟨by simp,Go.MapKept.stamped_empty 0,by simp⟩,Nat.le_refl _,rfl,hb,by simp,by simp⟩
theorem groups_kept {w w' : World} {base b n : Nat} {D : DataW Unit} {row : Option Nat} (h : w.ownsGroups Try.prog 9 base 3 .i64 b n D) (hg : w.grownBy w' row) (hb' : some b ≠ row)
  (ht : ∀ g,row = some g → g < base ∨ ∃ cells t,w.heap[g]? = some (.cells cells t (0,0)) ∧ t ≠ 3) : w'.ownsGroups Try.prog 9 base 3 .i64 b n D := by
 refine h.kept hg hb' (fun es clock hes x hx=>?_)
 obtain ⟨es',clock',hes',F,_⟩ := h
 rw [hes] at hes'
 injection hes' with e1
 injection e1 with e1 e2
 subst e1;subst e2
 obtain ⟨y,hy⟩ := F.reads x hx
 obtain ⟨z,hz,_⟩ := Go.WideElems.rd_val hy
 obtain ⟨zs,ho,_⟩ := rowElem_inv hz
 cases hb : x.val.ownBlock with
 | none=>exact .inl rfl
 | some g =>
  refine .inr (fun e=>?_)
  rcases ht g e.symm with hlt|⟨cells,t,hc,hne⟩
  ·have := own_base ho.1 g hb;omega
  ·obtain ⟨c2,h2⟩ := own_typed ho.1 g hb
   rw [h2] at hc
   injection hc with hc
   injection hc with _ hc
   exact hne hc.symm
def Inv (s : ByteArray) (B bo bm bf : Nat) (w0 : World) (a fr : Nat) (out : List S35) (vo : Value) (W : World) : Prop :=
 W.heap[B]? = some (.cells #[.string s] 9 (0,0)) ∧ W.heap[bf]? = some (.cells #[.int .i64 fr] 3 (0,0)) ∧ W.heap[bo]? = some (.cells #[vo] 30 (0,0)) ∧ Kd.R k35 35 W B (fun _=>True) vo out ∧
  (∃ (D : DataW Unit) (n : Nat),W.ownsGroups Try.prog 9 (bf + 1) 3 .i64 bm n D ∧ n ≤ a ∧ ∀ kb,MapHas D kb (poss s kb a)) ∧ Below B w0 W ∧ bf < W.heap.size
section
variable {s : ByteArray} {B bo bm bf : Nat} {w0 : World} {a fr : Nat} {out : List S35} {vo : Value} {W : World}
theorem Inv.sBlk (h : Inv s B bo bm bf w0 a fr out vo W) : W.heap[B]? = some (.cells #[.string s] 9 (0, 0)) := h.1
theorem Inv.fBlk (h : Inv s B bo bm bf w0 a fr out vo W) : W.heap[bf]? = some (.cells #[.int .i64 fr] 3 (0, 0)) := h.2.1
theorem Inv.oBlk (h : Inv s B bo bm bf w0 a fr out vo W) : W.heap[bo]? = some (.cells #[vo] 30 (0, 0)) := h.2.2.1
theorem Inv.row (h : Inv s B bo bm bf w0 a fr out vo W) : Kd.R k35 35 W B (fun _ => True) vo out := h.2.2.2.1
theorem Inv.below (h : Inv s B bo bm bf w0 a fr out vo W) : Below B w0 W := h.2.2.2.2.2.1
theorem Inv.lt (h : Inv s B bo bm bf w0 a fr out vo W) : bf < W.heap.size := h.2.2.2.2.2.2
theorem row_ty (h : Inv s B bo bm bf w0 a fr out vo W) : ∀ g, vo.ownBlock = some g → g < bf + 1 ∨ ∃ cells t, W.heap[g]? = some (.cells cells t (0, 0)) ∧ t ≠ 3 := by
 intro g hg
 obtain ⟨_,inner,ho,_⟩ := h.row
 obtain ⟨c,hc⟩ := own_typed ho g hg
 exact .inr ⟨c,35,hc,by decide⟩
/-- What changes out's row and its variable. -/
theorem Inv.outs {w1 w2 : World} {v1 : Value} {out1 : List S35} (h : Inv s B bo bm bf w0 a fr out vo W) (hB : B < bo) (ho : bo < bm) (hm : bm < bf) (g1 : W.grownBy w1 vo.ownBlock) (g2 : w1.grownBy w2 (some bo))
  (hb : w2.heap[bo]? = some (.cells #[v1] 30 (0,0))) (hr : Kd.R k35 35 w2 B (fun _=>True) v1 out1) (hBW : B ≤ W.heap.size) : Inv s B bo bm bf w0 a fr out1 v1 w2 := by
 have n1 : some B ≠ vo.ownBlock := Kd.R_ne h.row h.sBlk (by decide)
 have n2 : some bf ≠ vo.ownBlock := Kd.R_ne h.row h.fBlk (by decide)
 have n3 : some bo ≠ vo.ownBlock := Kd.R_ne h.row h.oBlk (by decide)
 obtain ⟨D,n,hg,hn,hh⟩ := h.2.2.2.2.1
 have hmb : some bm ≠ vo.ownBlock := by
  obtain ⟨es,cl,hes,_⟩ := hg
  intro e
  obtain ⟨_,inner,hoo,_⟩ := h.row
  obtain ⟨c,hc⟩ := own_typed hoo bm e.symm
  rw [hes] at hc;cases hc
 have hg1 := groups_kept hg g1 hmb (row_ty h)
 have hob1 := blk_grown h.oBlk g1 n3
 have hg2 := groups_kept hg1 g2 q109_ (fun g e=>by cases e;exact .inl q75_)
 refine ⟨blk_grown (blk_grown h.sBlk g1 n1) g2 q109_,blk_grown (blk_grown h.fBlk g1 n2) g2 q109_,hb,hr,⟨D,n,hg2,hn,hh⟩,?_,Nat.lt_of_lt_of_le h.lt (Nat.le_trans g1.size g2.size)⟩
 refine (h.below.grown g1 hBW (fun j hj=>?_)).grown g2 (Nat.le_trans hBW g1.size) (fun j hj=>by cases hj;omega)
 obtain ⟨_,inner,hoo,_⟩ := h.row
 exact own_base hoo j hj
theorem Inv.setFrom (h : Inv s B bo bm bf w0 a fr out vo W) (hB : B < bo) (ho : bo < bm) (hm : bm < bf) (hBW : B ≤ W.heap.size) (fr' : Nat) : Inv s B bo bm bf w0 a fr' out vo (W.setCell ⟨bf, 0, none⟩ (.int .i64 fr')) := by
 obtain ⟨D,n,hg,hn,hh⟩ := h.2.2.2.2.1
 have g1 : W.grownBy (W.setCell ⟨bf,0,none⟩ (.int .i64 fr')) (some bf) := grown_set _ _ _
 refine ⟨blk_grown h.sBlk g1 q109_,blk_put h.fBlk 0 _ rfl,blk_grown h.oBlk g1 q109_,Kd.R_set h.row h.fBlk (by decide) 0 _,⟨D,n,groups_kept hg g1 q109_ (fun g e=>by cases e;exact .inl q75_),hn,hh⟩,h.below.setCell (by show B ≤ bf;omega) _,by simpa [World.setCell] using h.lt⟩
theorem Inv.drew (h : Inv s B bo bm bf w0 a fr out vo W) : Inv s B bo bm bf w0 a fr out vo W.drew := by
 obtain ⟨D,n,hg,hn,hh⟩ := h.2.2.2.2.1
 have g1 : W.grownBy W.drew none := ⟨rfl,rfl,rfl,Nat.le_refl _,fun _ _ _=>rfl⟩
 exact ⟨blk_drew h.sBlk,blk_drew h.fBlk,blk_drew h.oBlk,Kd.R_drew h.row,⟨D,n,groups_kept hg g1 (by simp) (fun g e=>by cases e),hn,hh⟩,below_drew1 h.below,h.lt⟩
theorem Inv.drewN (h : Inv s B bo bm bf w0 a fr out vo W) (m : Nat) : Inv s B bo bm bf w0 a fr out vo (W.drewN m) := by
 obtain ⟨D,n,hg,hn,hh⟩ := h.2.2.2.2.1
 have g1 : W.grownBy (W.drewN m) none := ⟨rfl,rfl,rfl,Nat.le_refl _,fun _ _ _=>rfl⟩
 exact ⟨blk_drewN h.sBlk m,blk_drewN h.fBlk m,blk_drewN h.oBlk m,Kd.R_drewN h.row m,⟨D,n,groups_kept hg g1 (by simp) (fun g e=>by cases e),hn,hh⟩,pw_below_drewN h.below m,h.lt⟩
/-- No four bytes begin here: the map stays. -/
theorem Inv.skip (h : Inv s B bo bm bf w0 a fr out vo W) (h4 : ¬ a + 4 ≤ s.size) : Inv s B bo bm bf w0 (a + 1) fr out vo W := by
 obtain ⟨D,n,hg,hn,hh⟩ := h.2.2.2.2.1
 exact ⟨h.1,h.2.1,h.2.2.1,h.2.2.2.1,⟨D,n,hg,q75_,fun kb=>by rw [poss_succ,if_neg (fun e=>h4 e.1),List.append_nil];exact hh kb⟩,h.below,h.lt⟩
/-- A place is put into the map. -/
theorem Inv.mapped {w1 w2 : World} {v v' : Value} {D : DataW Unit} {n : Nat} {kb : List UInt8} (h : Inv s B bo bm bf w0 a fr out vo W) (hB : B < bo) (ho : bo < bm) (hm : bm < bf) (hBW : B ≤ W.heap.size)
  (hn : n ≤ a) (hh : ∀ kb,MapHas D kb (poss s kb a)) (hD : Go.Maps.IsMap D) (hk : a + 4 ≤ s.size ∧ (s.extract a (a + 4)).data.toList = kb) (hbm : ∃ es cl,W.heap[bm]? = some (.map es cl))
  (hoi : W.ownsInts (bf + 1) 3 .i64 v (poss s kb a)) (g1 : W.grownBy w1 v.ownBlock) (g2 : w1.grownBy w2 (some bm)) (ho' : w1.ownsInts (bf + 1) 3 .i64 v' (poss s kb a ++ [(a : Int)]))
  (hg : w2.ownsGroups Try.prog 9 (bf + 1) 3 .i64 bm (n + 1) (D.put (.string kb) (rowDatum .i64 v' (poss s kb a ++ [(a : Int)])))) : Inv s B bo bm bf w0 (a + 1) fr out vo w2 := by
 have hty : ∀ g cells t,W.heap[g]? = some (.cells cells t (0,0)) → t ≠ 3 → some g ≠ v.ownBlock := by
  intro g cells t hc hne e
  obtain ⟨c,h2⟩ := own_typed hoi.1 g e.symm
  rw [hc] at h2
  injection h2 with h2
  injection h2 with _ h2
  exact hne h2
 have hf : some bf ≠ v.ownBlock := fun e=>by have := own_base hoi.1 bf e.symm;omega
 have hR : Kd.R (Kd.int .i64) 3 W (bf + 1) (fun _=>True) v (poss s kb a) := Kd.R_of_own (h1 := fun _=>rfl) hoi.1 (fun _ _=>trivial)
 have r1 := Kd.R_over' h.row (Kd.R_typed hR) (by decide) g1
 have hbm1 : ∃ es cl,w1.heap[bm]? = some (.map es cl) := by
  obtain ⟨es,cl,e⟩ := hbm
  refine ⟨es,cl,(g1.block bm (Array.getElem?_eq_some_iff.1 e).1 (fun e2=>?_)).trans e⟩
  obtain ⟨c,h2⟩ := own_typed hoi.1 bm e2.symm
  rw [e] at h2;cases h2
 have r2 : Kd.R k35 35 w2 B (fun _=>True) vo out := Kd.R_mono (Kd.R_step (Kd.R_bound r1) (fun k hk hlt=>g2.block k hlt (by
  rintro e
  injection e with e
  subst e
  obtain ⟨_,_,_,q,_,cells,hc⟩ := hk
  obtain ⟨es,cl,e2⟩ := hbm1
  rw [e2] at hc;cases hc))) (fun _ _=>trivial)
 refine ⟨blk_grown (blk_grown h.sBlk g1 (hty _ _ _ h.sBlk (by decide))) g2 q109_,blk_grown (blk_grown h.fBlk g1 hf) g2 q109_,blk_grown (blk_grown h.oBlk g1 (hty _ _ _ h.oBlk (by decide))) g2 q109_,r2,⟨_,n + 1,hg,q75_,fun kb'=>?_⟩,?_,Nat.lt_of_lt_of_le h.lt (Nat.le_trans g1.size g2.size)⟩
 ·rw [poss_succ]
  by_cases e : kb' = kb
  ·subst e
   rw [if_pos hk]
   refine .inr ?_
   rw [Go.Maps.atKey_put_same hD (by trivial)]
   exact ho'.datum_pos (by simp)
  ·rw [if_neg (fun e2=>e (e2.2.symm.trans hk.2)),List.append_nil]
   unfold MapHas
   rw [Go.Maps.atKey_put_other (by simpa using e)]
   exact hh kb'
 ·exact (h.below.grown g1 hBW (fun j hj=>by have := own_base hoi.1 j hj;omega)).grown g2 (Nat.le_trans hBW g1.size) (fun j hj=>by cases hj;omega)
end

/-- The look-up in any world that has the same map block; what it yields is known in the old one. -/
theorem groups_at {w : World} {b n base : Nat} {D : DataW Unit} {key : Value} {kl : Lit} (h : w.ownsGroups Try.prog 9 base 3 .i64 b n D) (hn : n < maxLen) (hkey : keyOf Try.prog 9 key = some kl) (w2 : World) (hb2 : w2.heap[b]? = w.heap[b]?) :
  ∃ v zs,(Instr.lookup 66 (.map (some b)) key false).run Try.prog w2 = .ok v w2 ∧ D.atKey kl .nil = rowDatum .i64 v zs ∧ w.ownsInts base 3 .i64 v zs ∧ zs.length ≤ n ∧ w.groupBack Try.prog 66 9 base 3 .i64 b n D key kl v := by
 obtain ⟨es,clock,hb,F,hs,rfl,hbb,hlen,hap⟩ := h
 rcases Maps.fit_look false keyed9 Try.underlying66 (zero68 w2) (hb2.trans hb) F hkey with ⟨hrun,_,hat⟩|⟨e0,y,hm0,h3,hrun,hR,hat,_⟩
 ·exact ⟨.slice none 0 0,[],hrun,hat _,World.ownsInts_nil _ _ _ _,Nat.zero_le _,groups_back keyed9 Try.underlying66 hb F hs hn hbb hlen hap hkey (fun x _ _=>by cases x.val.ownBlock <;> simp [Value.ownBlock]) (by simp [Value.ownBlock])⟩
 ·obtain ⟨zs,ho,rfl⟩ := rowElem_inv hR
  exact ⟨e0.val,zs,hrun,hat _,ho,hlen e0 hm0 zs ho,groups_back keyed9 Try.underlying66 hb F hs hn hbb hlen hap hkey (fun x hx hne=>hap x hx e0 hm0 (by rw [h3];exact hne)) (fun e1=>by have := (ho.1.lt b e1).1;omega)⟩
theorem info3 : (Try.prog.info? 3).map (fun i => (i.zero, i.size, i.bytes)) = some (some (.int .i64 0), 1, 8) := by kernel_rfl
/-- What Pack's append and store need of what the look-up yielded. -/
def Got (s : ByteArray) (bf bm c n : Nat) (D : DataW Unit) (W : World) (v : Value) : Prop :=
 W.ownsInts (bf + 1) 3 .i64 v (poss s (s.extract c (c + 4)).data.toList c) ∧ (poss s (s.extract c (c + 4)).data.toList c).length ≤ n ∧ W.groupBack Try.prog 66 9 (bf + 1) 3 .i64 bm n D (.string (s.extract c (c + 4))) (.string (s.extract c (c + 4)).data.toList) v
theorem got_at {s : ByteArray} {bf bm c n : Nat} {D : DataW Unit} {W : World} (hg : W.ownsGroups Try.prog 9 (bf + 1) 3 .i64 bm n D) (hn : n ≤ 1000000) (hh : ∀ kb, MapHas D kb (poss s kb c)) (hs : s.size ≤ 65536) (w2 : World) (hb2 : w2.heap[bm]? = W.heap[bm]?) :
  ∃ v,(Instr.lookup 66 (.map (some bm)) (.string (s.extract c (c + 4))) false).run Try.prog w2 = .ok v w2 ∧ Got s bf bm c n D W v := by
 have hkey : keyOf Try.prog 9 (.string (s.extract c (c + 4))) = some (.string (s.extract c (c + 4)).data.toList) := Go.WideMaps.keyOf_string_mk Try.underlying9 (by simp [ByteArray.size_extract,maxLen];omega)
 obtain ⟨v,zs,h1,h2,h3,h5,h4⟩ := groups_at hg (show n < maxLen by unfold maxLen;omega) hkey w2 hb2
 obtain rfl := (hh _).eq h2 h3
 exact ⟨v,h1,h3,h5,h4⟩
set_option maxHeartbeats 8000000 in
set_option maxRecDepth 100000 in
theorem pack_any (k : Nat) (s : ByteArray) (w : World) (hs : s.size ≤ 65536) (r1 : List S35) (h : packGo k s (s.size + 1) 0 0 [] = some r1) :
  Calls Try.prog 15 #[.string s] w fun e w'=>∃ v0_ : Value,e = .returned (.tuple #[v0_,.int .i64 0]) ∧ Kd.R k35 35 w' w.heap.size (fun _=>True) v0_ r1 ∧ Below w.heap.size w w' := by
 have hu35 := Try.underlying35
 have hmm := @run_makeMap Try.prog
 have hmf : ∀ (fn : Fn) (first cap : Array Value) (w : World),(Instr.makeFunc fn first cap).run Try.prog w = .ok (.func fn first cap) w := fun _ _ _ _=>rfl
 have hsz : decide (65536 < (s.size : Int)) = false := by simp;omega
 have HH := Aside0.mk h
 clear h
 go_enter Try.func15,Try.ntmps15
 go_wp2_with fail
 clear hmm hsz
 have INV : Inv s w.heap.size (w.heap.size + 1) (w.heap.size + 1 + 1) (w.heap.size + 1 + 1 + 1) w 0 0 [] (.slice none 0 0) ((((w.alloc (.cells #[.string s] 9)).alloc (.cells #[.slice none 0 0] 30)).alloc (.map #[] 0)).alloc (.cells #[.int .i64 0] 3)) := by
  have z1 : (w.alloc (.cells #[.string s] 9)).heap.size = w.heap.size + 1 := by simp
  have z2 : ((w.alloc (.cells #[.string s] 9)).alloc (.cells #[.slice none 0 0] 30)).heap.size = w.heap.size + 1 + 1 := by simp
  have z3 : (((w.alloc (.cells #[.string s] 9)).alloc (.cells #[.slice none 0 0] 30)).alloc (.map #[] 0)).heap.size = w.heap.size + 1 + 1 + 1 := by simp
  have a1 := blk_alloc (blk_alloc (blk_alloc (blk_new w (.cells #[.string s] 9)) (.cells #[.slice none 0 0] 30)) (.map #[] 0)) (.cells #[.int .i64 0] 3)
  have a2 := blk_alloc (blk_alloc (blk_new (w.alloc (.cells #[.string s] 9)) (.cells #[.slice none 0 0] 30)) (.map #[] 0)) (.cells #[.int .i64 0] 3)
  have a3 := blk_alloc (blk_new ((w.alloc (.cells #[.string s] 9)).alloc (.cells #[.slice none 0 0] 30)) (.map #[] 0)) (.cells #[.int .i64 0] 3)
  have a4 := blk_new (((w.alloc (.cells #[.string s] 9)).alloc (.cells #[.slice none 0 0] 30)).alloc (.map #[] 0)) (.cells #[.int .i64 0] 3)
  rw [z1] at a2;rw [z2] at a3;rw [z3] at a4
  refine ⟨a1,a4,a2,Kd.R_nil _ _ _ _ _,⟨.map [],0,groups_empty a3 q75_,Nat.le_refl _,fun kb=>.inl ⟨rfl,rfl⟩⟩,below_alloc (below_alloc (below_alloc (below_alloc (Below.refl _ _) _) _) _) _,by simp⟩
 generalize ((((w.alloc (.cells #[.string s] 9)).alloc (.cells #[.slice none 0 0] 30)).alloc (.map #[] 0)).alloc (.cells #[.int .i64 0] 3)) = W at INV ⊢
 obtain ⟨bo,hbo⟩ : ∃ bo,w.heap.size + 1 = bo := ⟨_,rfl⟩
 rw [hbo] at INV ⊢
 obtain ⟨bm,hbm⟩ : ∃ bm,bo + 1 = bm := ⟨_,rfl⟩
 rw [hbm] at INV ⊢
 obtain ⟨bf,hbf⟩ : ∃ bf,bm + 1 = bf := ⟨_,rfl⟩
 rw [hbf] at INV ⊢
 obtain ⟨B,hB⟩ : ∃ B,w.heap.size = B := ⟨_,rfl⟩
 rw [hB] at INV ⊢
 have l1 : B < bo := by omega
 have l2 : bo < bm := by omega
 have l3 : bm < bf := by omega
 have HB0 := Aside0.mk hB
 clear hbo hbm hbf hB
 have HI := Aside0.mk INV
 clear INV
 go_loopg [8] (s.size + 1) (fun kq v8 w'=>∃ (a fr : Nat) (out : List S35) (vo : Value),v8 = .int .i64 a ∧ a ≤ 65600 ∧ out.length ≤ 2 * a ∧ Aside0 (packGo k s kq a fr out = some r1) ∧ Aside0 (Inv s B bo bm bf w a fr out vo w'))
 case atStart=>exact ⟨0,0,[],_,rfl,q75_,by simp,HH,HI⟩
 case round =>
  clear HI HH
  obtain ⟨a,fr,out,vo,rfl,ha,hol,HP,HI⟩ := hrel
  cases gk with
  | zero=>exact absurd HP.out (by simp [packGo])
  | succ k1 =>
  have H := HP.out
  clear HP
  simp only [packGo] at H
  have hcs : wr.cell? ⟨B,0,none⟩ = some (.string s) := (blk_cell HI.out.sBlk 0).trans rfl
  have hBW : B ≤ wr.heap.size := Nat.le_of_lt (blk_lt HI.out.sBlk)
  by_cases hlt : a < s.size
  ·rw [if_pos hlt] at H
   have hlt' : decide ((a : Int) < (s.size : Int)) = true := by simp;omega
   obtain ⟨⟨off,n⟩,HBST,H⟩ := Option.bind_eq_some_iff.mp H
   obtain ⟨D,m,hg,hmn,hh⟩ := HI.out.2.2.2.2.1
   have HC := Aside0.mk (fun W=>best_any k s a W)
   have hcall := best_any k s a wr D (bf + 1) bm m hg q75_ (poss s (s.extract a (a + 4)).data.toList a) (fun _=>hh _) (poss_lt _ _ _) off n HBST hs q75_
   have HCALL := Aside0.mk hcall
   clear hcall HC hg hmn hh HBST D m
   have H := Aside0.mk H
   go_wp2_with fail
   refine HCALL.out.mono ?_
   rintro e w2 ⟨rfl,⟨nd,rfl⟩⟩
   have HI2 := Aside0.mk (HI.out.drewN nd)
   clear HI HCALL hcs
   go_upto_if 29 with (fail)
   go_cut [10] from 17 to 70 (fun v10 wx=>∃ (n1 fr1 : Nat) (out1 : List S35) (vo1 : Value),v10 = .int .i64 n1 ∧ 1 ≤ n1 ∧ n1 ≤ 64 ∧ out1.length ≤ 2 * (a + n1) ∧ Aside0 (packGo k s k1 (a + n1) fr1 out1 = some r1) ∧ Aside0 (Inv s B bo bm bf w a fr1 out1 vo1 wx))
   case first =>
    by_cases h4 : 4 ≤ n
    ·have H := H.out
     rw [if_pos h4] at H
     by_cases h64 : n ≤ 64
     ·rw [if_pos h64] at H
      obtain ⟨m,rfl⟩ : ∃ m : Nat,n = (m : Int) := ⟨n.toNat,q75_⟩
      rw [Int.toNat_natCast] at H
      have H := Aside0.mk H
      have h4' : decide (4 ≤ (m : Int)) = true := decide_eq_true h4
      have hbs : B ≤ (wr.drewN nd).heap.size := hBW
      have hpass := pass_any s fr a bf bo B B vo out (wr.drewN nd) hs q75_ HI2.out.fBlk HI2.out.oBlk HI2.out.sBlk HI2.out.row hbs q75_
      have HPASS := Aside0.mk hpass
      clear hpass
      go_wp2_with fail
      refine HPASS.out.mono ?_
      rintro e w2 ⟨v1,w1,rfl,hb1,hr1,hg1,hg2,_⟩
      have HI3 := Aside0.mk (HI2.out.outs l1 l2 l3 hg1 hg2 hb1 hr1 hbs)
      have hbs3 := Nat.le_trans hbs (Nat.le_trans hg1.size hg2.size)
      clear hb1 hr1 hg1 hg2 HPASS HI2 hbs hBW
      have hco : w2.cell? ⟨bo,0,none⟩ = some v1 := (blk_cell HI3.out.oBlk 0).trans rfl
      have hfo := blk_frozen HI3.out.oBlk 0
      have HB3 := Aside0.mk (HI3.out.row)
      have HZ := Aside0.mk (Below.refl B w2)
      have hll : (out ++ litP s fr a).length ≤ 2 * a + 1 := by
       rw [List.length_append]
       unfold litP
       split <;> simp <;> omega
      have HS3 := Aside0.mk hbs3
      clear hbs3
      go_wp2_with (first|((with_reducible refine gate_builtin (b := .append) (xs := #[.tmp 33,.tmp 37]) rfl ?_);at_builtin;refine Kd.R_append k35 (w0 := w2) B rfl (.tmp 33) (.tmp 37) 30 35 (.agg #[(.bool false),(.string ⟨#[]⟩),(.int .i64 0),(.int .i64 0)]) 40 rfl Try.underlying30 info35 rfl (by decide) q75_ v1 (out ++ litP s fr a) (⟨true,⟨#[]⟩,off,m⟩ : S35) [.bool true,.string ⟨#[]⟩,.int .i64 off,.int .i64 m] (fun _=>True) (fun _=>False) rfl rfl ?aP (fun _ hk=>hk.elim) ?aF ?aO ?aB ?aS ?aL ?_;(case aP=>exact k35_mkM _ _ _ (⟨true,⟨#[]⟩,off,m⟩ : S35));(case aF=>exact (fun _ _=>trivial));(case aO=>exact HB3.out);(case aB=>exact HZ.out);(case aS=>exact HS3.out);(case aL=>omega);intro v3 w3 ho hb hg hat;have hbo3 := blk_grown HI3.out.oBlk hg (Kd.R_ne HB3.out HI3.out.oBlk (by decide));have hbf3 := blk_grown HI3.out.fBlk hg (Kd.R_ne HB3.out HI3.out.fBlk (by decide));have hco3 := (blk_cell hbo3 0).trans rfl;have hfo3 := blk_frozen hbo3 0;have hcf3 := (blk_cell hbf3 0).trans rfl;have hff3 := blk_frozen hbf3 0;have HI4 := Aside0.mk (HI3.out.outs l1 l2 l3 hg (grown_set w3 ⟨bo,0,none⟩ v3) (blk_put hbo3 0 v3 rfl) (Kd.R_set ho hbo3 (by decide) 0 v3) HS3.out);have HS4 := Aside0.mk (Nat.le_trans HS3.out hg.size);obtain ⟨A3,c3,e3⟩ := Kd.R_slice ho;rw [List.length_append,List.length_singleton] at e3;subst e3;clear hbo3 hbf3 ho hb hg hat HI3 HB3 HZ HS3 hco hfo))
      go_meet
      have HI5 := HI4.out.setFrom l1 l2 l3 (by simpa [World.setCell] using HS4.out) (a + m)
      rw [List.length_append,Int.natCast_add] at HI5
      exact ⟨m,a + m,_,_,rfl,q75_,q75_,by rw [List.length_append,List.length_singleton];omega,H,⟨HI5⟩⟩
     ·rw [if_neg h64] at H
      exact absurd H (by simp)
    ·have H := H.out
     rw [if_neg h4] at H
     have H := Aside0.mk H
     have h4' : decide (4 ≤ n) = false := decide_eq_false h4
     go_wp2_with fail
     go_meet
     exact ⟨1,fr,out,vo,rfl,q75_,q75_,q75_,H,HI2⟩
   case rest =>
    clear hBW HI2 H
    obtain ⟨n1,fr1,out1,vo1,rfl,hn1,hn2,hol1,HP1,HI1⟩ := hcut
    have HB1 := Aside0.mk HI1
    clear HI1
    go_wp2_with fail

    go_loopg [8] n1 (fun kq v8 wq=>∃ c : Nat,v8 = .int .i64 c ∧ Aside0 (c + kq = a + n1) ∧ c ≤ 65700 ∧ Aside0 (Inv s B bo bm bf w c fr1 out1 vo1 wq))
    case atStart=>exact ⟨a,rfl,⟨rfl⟩,q75_,HB1.out⟩
    case round =>
     clear HB1
     obtain ⟨c,rfl,HK,hc,HI⟩ := hrel
     cases gk with
     | zero =>
      have hcn : decide ((c : Int) < (a : Int) + n1) = false := by have := HK.out;simp;omega
      go_wp2_with fail
      have ec : c = a + n1 := by have := HK.out;omega
      go_roundg k1
      case measure=>omega
      case rel=>exact ⟨c,fr1,out1,vo1,rfl,q75_,q75_,⟨by rw [ec];exact HP1.out⟩,HI⟩
     | succ k2 =>
      have hcn : decide ((c : Int) < (a : Int) + n1) = true := by have := HK.out;simp;omega
      have hcs : wr.cell? ⟨B,0,none⟩ = some (.string s) := (blk_cell HI.out.sBlk 0).trans rfl
      by_cases h4 : c + 4 ≤ s.size
      ·have h4' : decide ((c : Int) + 4 ≤ (s.size : Int)) = true := by simp;omega
       go_upto_region 19 with (fail)
       refine start_ (n := 17) (S := fun w'=>w'.cell? ⟨B,0,none⟩ = some (.string s)) (ds := [16]) #[false,false,false,false,false,false,false,false,false,false,false,false,false,false,false,false,false] q9_ rfl rfl hcs (fun hHeld=>?_);refine with_tab (T := rtab .any (opsOf Try.f15 19)) q9_ (fun HT_=>?_)
       have HI := Aside0.mk HI.out.drew
       clear hcs
       generalize wr.drew = W at HI hHeld ⊢
       have h4i : (c : Int) + 4 ≤ (s.size : Int) := by omega
       have h4z : 0 ≤ (c : Int) + 4 := by omega
       have h4l : (c : Int) ≤ (c : Int) + 4 := by omega
       have h4n : ((c : Int) + 4).toNat = c + 4 := by omega
       have hwr : IntKind.i64.wrap ((c : Int) + 4) = (c : Int) + 4 := by rw [i64_w];unfold Go.RowKit.wrap64;omega
       have hwr2 : wrap64 ((c : Int) + 4) = (c : Int) + 4 := by rw [← i64_w];exact hwr
       refine pure_ (i := 0) (N := some 55) (v := ?_) (a' := ?_) #[true,false,false,false,false,false,false,false,false,false,false,false,false,false,false,false,false] rfl rfl (any_of HT_.out q9_) (fun _ _ _ h=>h) (Or.inl ⟨by rfl,?_⟩) ?_ ?_
       rotate_left
       ·intro w'
        go_simp
        with_reducible rfl
       rotate_left
       ·simp only [Act.put,List.setIfInBounds_toArray,List.set_cons_zero,List.set_cons_succ,i64_w,i32_w,hwr2]
        rfl
       refine pure_ (i := 2) (N := some 57) (v := ?_) (a' := ?_) #[true,false,true,false,false,false,false,false,false,false,false,false,false,false,false,false,false] rfl rfl (any_of HT_.out q9_) (fun _ _ _ h=>h) (Or.inl ⟨by rfl,?_⟩) ?_ ?_
       rotate_left
       ·intro w'
        go_simp
        with_reducible rfl
       rotate_left
       ·simp only [Act.put,List.setIfInBounds_toArray,List.set_cons_zero,List.set_cons_succ,i64_w,i32_w,hwr2]
        rfl
       refine pure_ (i := 3) (N := some 58) (v := ?_) (a' := ?_) #[true,false,true,true,false,false,false,false,false,false,false,false,false,false,false,false,false] rfl rfl (any_of HT_.out q9_) (fun _ _ _ h=>h) (Or.inl ⟨by rfl,?_⟩) ?_ ?_
       rotate_left
       ·intro w'
        go_simp
        with_reducible rfl
       rotate_left
       ·simp only [Act.put,List.setIfInBounds_toArray,List.set_cons_zero,List.set_cons_succ,i64_w,i32_w,hwr2]
        rfl
       refine pure_ (i := 4) (N := some 59) (v := ?_) (a' := ?_) #[true,false,true,true,true,false,false,false,false,false,false,false,false,false,false,false,false] rfl rfl (any_of HT_.out q9_) (fun _ _ _ h=>h) (Or.inl ⟨by rfl,?_⟩) ?_ ?_
       rotate_left
       ·intro w'
        go_simp
        with_reducible rfl
       rotate_left
       ·simp only [Act.put,List.setIfInBounds_toArray,List.set_cons_zero,List.set_cons_succ,i64_w,i32_w,hwr2]
        rfl
       refine pure_ (i := 6) (N := some 61) (v := ?_) (a' := ?_) #[true,false,true,true,true,false,true,false,false,false,false,false,false,false,false,false,false] rfl rfl (any_of HT_.out q9_) (fun _ _ _ h=>h) (Or.inl ⟨by rfl,?_⟩) ?_ ?_
       rotate_left
       ·intro w'
        go_simp
        with_reducible rfl
       rotate_left
       ·simp only [Act.put,List.setIfInBounds_toArray,List.set_cons_zero,List.set_cons_succ,i64_w,i32_w,hwr2]
        rfl
       refine pure_ (i := 8) (N := some 63) (v := ?_) (a' := ?_) #[true,false,true,true,true,false,true,false,true,false,false,false,false,false,false,false,false] rfl rfl (any_of HT_.out q9_) (fun _ _ _ h=>h) (Or.inl ⟨by rfl,?_⟩) ?_ ?_
       rotate_left
       ·intro w'
        go_simp
        with_reducible rfl
       rotate_left
       ·simp only [Act.put,List.setIfInBounds_toArray,List.set_cons_zero,List.set_cons_succ,i64_w,i32_w,hwr2]
        rfl
       refine pure_ (i := 9) (N := some 64) (v := ?_) (a' := ?_) #[true,false,true,true,true,false,true,false,true,true,false,false,false,false,false,false,false] rfl rfl (any_of HT_.out q9_) (fun _ _ _ h=>h) (Or.inl ⟨by rfl,?_⟩) ?_ ?_
       rotate_left
       ·intro w'
        go_simp
        with_reducible rfl
       rotate_left
       ·simp only [Act.put,List.setIfInBounds_toArray,List.set_cons_zero,List.set_cons_succ,i64_w,i32_w,hwr2]
        rfl
       refine pure_ (i := 10) (N := some 65) (v := ?_) (a' := ?_) #[true,false,true,true,true,false,true,false,true,true,true,false,false,false,false,false,false] rfl rfl (any_of HT_.out q9_) (fun _ _ _ h=>h) (Or.inl ⟨by rfl,?_⟩) ?_ ?_
       rotate_left
       ·intro w'
        go_simp
        with_reducible rfl
       rotate_left
       ·simp only [Act.put,List.setIfInBounds_toArray,List.set_cons_zero,List.set_cons_succ,i64_w,i32_w,hwr2]
        rfl
       refine pure_ (i := 13) (N := some 68) (v := ?_) (a' := ?_) #[true,false,true,true,true,false,true,false,true,true,true,false,false,true,false,false,false] rfl rfl (any_of HT_.out q9_) (fun _ _ _ h=>h) (Or.inl ⟨by rfl,?_⟩) ?_ ?_
       rotate_left
       ·intro w'
        go_simp
        with_reducible rfl
       rotate_left
       ·simp only [Act.put,List.setIfInBounds_toArray,List.set_cons_zero,List.set_cons_succ,i64_w,i32_w,hwr2]
        rfl
       refine take_ (i := 1) (N := some 56) (v := ?_) (a' := ?_) #[true,true,true,true,true,false,true,false,true,true,true,false,false,true,false,false,false] rfl rfl (take_of HT_.out q9_) (fun _ _ _ h=>h) (Or.inl ⟨by rfl,?_⟩) hHeld ?_ ?_
       rotate_left
       ·rintro w' s0
        go_simp
        with_reducible rfl
       rotate_left
       ·simp only [Act.put,List.setIfInBounds_toArray,List.set_cons_zero,List.set_cons_succ,i64_w,i32_w]
        rfl
       refine take_ (i := 7) (N := some 62) (v := ?_) (a' := ?_) #[true,true,true,true,true,false,true,true,true,true,true,false,false,true,false,false,false] rfl rfl (take_of HT_.out q9_) (fun _ _ _ h=>h) (Or.inl ⟨by rfl,?_⟩) hHeld ?_ ?_
       rotate_left
       ·rintro w' s0
        go_simp
        with_reducible rfl
       rotate_left
       ·simp only [Act.put,List.setIfInBounds_toArray,List.set_cons_zero,List.set_cons_succ,i64_w,i32_w]
        rfl
       refine pure_ (i := 5) (N := some 60) (v := ?_) (a' := ?_) #[true,true,true,true,true,true,true,true,true,true,true,false,false,true,false,false,false] rfl rfl (any_of HT_.out q9_) (fun _ _ _ h=>h) (Or.inl ⟨by rfl,?_⟩) ?_ ?_
       rotate_left
       ·intro w'
        go_simp
        with_reducible rfl
       rotate_left
       ·simp only [Act.put,List.setIfInBounds_toArray,List.set_cons_zero,List.set_cons_succ,i64_w,i32_w]
        rfl
       refine pure_ (i := 11) (N := some 66) (v := ?_) (a' := ?_) #[true,true,true,true,true,true,true,true,true,true,true,true,false,true,false,false,false] rfl rfl (any_of HT_.out q9_) (fun _ _ _ h=>h) (Or.inl ⟨by rfl,?_⟩) ?_ ?_
       rotate_left
       ·intro w'
        go_simp
        with_reducible rfl
       rotate_left
       ·simp only [Act.put,List.setIfInBounds_toArray,List.set_cons_zero,List.set_cons_succ,i64_w,i32_w]
        rfl
       clear hwr hwr2 h4i h4z h4l h4n
       obtain ⟨D,m,hg,hmn,hh⟩ := HI.out.2.2.2.2.1
       have hbB : bm ≠ B := by omega
       have HG := Aside0.mk (fun w2=>got_at hg q75_ hh hs w2)
       have HHH := Aside0.mk hh
       have hD : Go.Maps.IsMap D := by
        obtain ⟨_,_,_,_,_,e,_⟩ := hg
        exact ⟨_,e⟩
       have hBM : ∃ es cl,W.heap[bm]? = some (.map es cl) := by
        obtain ⟨es,cl,e,_⟩ := hg
        exact ⟨es,cl,e⟩
       have HBM := Aside0.mk hBM
       have HD := Aside0.mk hD
       clear hg hh hD hBM
       refine join_ (σ := Value) 2 #[true,true,true,true,true,true,true,true,true,true,true,true,true,true,true,false,false] (fun s_=>[(67,s_),(69,.slice (some ⟨W.heap.size,0,none⟩) 1 1)]) (fun s_ w'=>w' = W.alloc (.cells #[.int .i64 (c : Int)] 3) ∧ Got s bf bm c m D W s_) ?_ ?_
       rotate_left
       ·intro hCont
        refine two_ (i := 12) (j := 14) (Ni := some 67) (Nj := some 69) #[true,true,true,true,true,true,true,true,true,true,true,true,true,true,false,false,false] #[true,true,true,true,true,true,true,true,true,true,true,true,false,true,true,false,false] rfl rfl rfl rfl (two_of HT_.out q9_) (by decide) (by decide) (fun K hK=>?_) (fun K hK=>?_)
        ·skip
         obtain ⟨v,hrun,hgot⟩ := HG.out W rfl
         have HGOT := Aside0.mk hgot
         clear hgot
         refine value_ (w1 := ?_) (v := ?_) (by rfl) rfl ?_ ?_
         rotate_left 2
         ·go_simp
          first|done|(constructor <;> rfl)|with_reducible rfl
         refine hK.out _ _ hHeld (fun hHeld=>?_)
         clear hK K hrun
         refine norm_ (a' := ?_) ?_ ?_
         rotate_left
         ·show Act.put _ (some 67) _ = _
          simp only [Act.put,List.setIfInBounds_toArray,List.set_cons_zero,List.set_cons_succ,i64_w,i32_w]
          rfl
         refine one_ (i := 14) (N := some 69) #[true,true,true,true,true,true,true,true,true,true,true,true,true,true,true,false,false] rfl rfl (one_of HT_.out q9_) (by decide) (fun K hK=>?_)
         refine value_ (w1 := ?_) (v := ?_) (by rfl) rfl ?_ ?_
         rotate_left 2
         ·go_simp
          first|done|(constructor <;> rfl)|with_reducible rfl
         refine hK.out _ _ ((World.cell?_alloc_lt _ _ _ (World.block_lt_of_cell? _ _ hHeld)).trans hHeld) (fun hHeld=>?_)
         clear hK K
         refine norm_ (a' := ?_) ?_ ?_
         rotate_left
         ·show Act.put _ (some 69) _ = _
          simp only [Act.put,List.setIfInBounds_toArray,List.set_cons_zero,List.set_cons_succ,i64_w,i32_w]
          rfl
         exact norm_ q90_ (hCont v _ ⟨rfl,HGOT.out⟩)
        ·skip
         refine value_ (w1 := ?_) (v := ?_) (by rfl) rfl ?_ ?_
         rotate_left 2
         ·go_simp
          first|done|(constructor <;> rfl)|with_reducible rfl
         have hHeldW := Aside0.mk hHeld
         refine hK.out _ _ ((World.cell?_alloc_lt _ _ _ (World.block_lt_of_cell? _ _ hHeld)).trans hHeld) (fun hHeld=>?_)
         clear hK K
         refine norm_ (a' := ?_) ?_ ?_
         rotate_left
         ·show Act.put _ (some 69) _ = _
          simp only [Act.put,List.setIfInBounds_toArray,List.set_cons_zero,List.set_cons_succ,i64_w,i32_w]
          rfl
         refine one_ (i := 12) (N := some 67) #[true,true,true,true,true,true,true,true,true,true,true,true,true,true,true,false,false] rfl rfl (one_of HT_.out q9_) (by decide) (fun K hK=>?_)
         obtain ⟨v,hrun,hgot⟩ := HG.out (W.alloc (.cells #[.int .i64 (c : Int)] 3)) (by show (W.heap.push _)[bm]? = _;rw [Array.getElem?_push,if_neg (by have := HI.out.lt;omega)])
         have HGOT := Aside0.mk hgot
         clear hgot
         refine value_ (w1 := ?_) (v := ?_) (by rfl) rfl ?_ ?_
         rotate_left 2
         ·go_simp
          first|done|(constructor <;> rfl)|with_reducible rfl
         refine hK.out _ _ hHeld (fun hHeld=>?_)
         clear hK K hrun
         refine norm_ (a' := ?_) ?_ ?_
         rotate_left
         ·show Act.put _ (some 67) _ = _
          simp only [Act.put,List.setIfInBounds_toArray,List.set_cons_zero,List.set_cons_succ,i64_w,i32_w]
          rfl
         exact norm_ q90_ (hCont v _ ⟨rfl,HGOT.out⟩)
       ·rintro v w' ⟨rfl,hgot⟩
        have HGOT := Aside0.mk hgot
        clear hgot
        have hBf := HI.out.lt
        have hpl := poss_len s (s.extract c (c + 4)).data.toList c
        refine norm_ (a' := ?_) ?_ ?_
        rotate_left
        ·simp only [putAll,Act.put,List.setIfInBounds_toArray,List.set_cons_zero,List.set_cons_succ]
         rfl
        have hHeldA : (W.alloc (.cells #[.int .i64 (c : Int)] 3)).cell? ⟨B,0,none⟩ = some (.string s) := (World.cell?_alloc_lt _ _ _ (World.block_lt_of_cell? _ _ hHeld)).trans hHeld
        refine one_ (i := 15) (N := some 70) #[true,true,true,true,true,true,true,true,true,true,true,true,true,true,true,true,false] rfl rfl (one_of HT_.out q9_) (by decide) (fun K hK=>?_)
        refine step_append_cells (w0 := W) (bf + 1) (by rfl) (.tmp 67) (.tmp 69) 68 3 (.int .i64 0) 1 8 rfl Try.underlying68 info3 rfl (by decide) q75_ v (poss s (s.extract c (c + 4)).data.toList c).length ((poss s (s.extract c (c + 4)).data.toList c).map (Value.int .i64)) [.int .i64 (c : Int)] rfl rfl rfl ?a1 ?aO ?aB ?aS ?aL ?_
        (case a1=>intro u hu;rw [List.mem_singleton] at hu;subst hu;rfl)
        (case aO=>exact HGOT.out.1.1)
        (case aB=>exact Below.refl _ _)
        (case aS=>omega)
        (case aL=>omega)
        intro v1 w1 ho hb hg1 hat
        have hs1 : w1.cell? ⟨B,0,none⟩ = some (.string s) := (blk_cell (blk_grown HI.out.sBlk hg1 (fun e=>by have := own_base HGOT.out.1.1 B e.symm;omega)) 0).trans rfl
        have hoi' : w1.ownsInts (bf + 1) 3 .i64 v1 (poss s (s.extract c (c + 4)).data.toList c ++ [(c : Int)]) := by
         refine ⟨by rw [List.length_append,List.length_singleton,List.map_append];exact ho,fun z hz=>?_⟩
         rcases List.mem_append.1 hz with h|h
         ·exact HGOT.out.1.2 z h
         ·rw [List.mem_singleton.1 h]
          simp only [Lit.wf,IntKind.min,IntKind.max,IntKind.signed,IntKind.bits,Bool.and_eq_true,decide_eq_true_eq,if_true]
          omega
        obtain ⟨w2,hrun2,hg2,hgr2⟩ := HGOT.out.2.2 w1 v1 (poss s (s.extract c (c + 4)).data.toList c ++ [(c : Int)]) hg1 hoi' (by rw [List.length_append,List.length_singleton];have := HGOT.out.2.1;omega) hat
        have HINV := Aside0.mk (HI.out.mapped l1 l2 l3 q75_ hmn HHH.out HD.out ⟨h4,rfl⟩ HBM.out HGOT.out.1 hg1 hgr2 hoi' hg2)
        refine hK.out _ _ hs1 (fun hHeld=>?_)
        clear hK K
        refine norm_ (a' := ?_) ?_ ?_
        rotate_left
        ·show Act.put _ (some 70) _ = _
         simp only [Act.put,List.setIfInBounds_toArray,List.set_cons_zero,List.set_cons_succ,i64_w,i32_w]
         rfl
        refine last_ (i := 16) (N := none) #[true,true,true,true,true,true,true,true,true,true,true,true,true,true,true,true,true] rfl rfl (one_of HT_.out q9_) (by decide) (fun K hK=>?_)
        clear HI hb hat hg1 hgr2 hg2 hoi' ho HGOT
        refine skip_ (w1 := ?_) (by rfl) rfl ?_ ?_
        rotate_left
        ·go_simp
         first|done|rfl
        refine hK.out _ _ ?_
        clear hK K
        refine done_ (done_of HT_.out q9_) ?_
        clear HT_ hrun2
        go_wp2_with fail
        go_roundg k2
        case measure=>omega
        case rel=>exact ⟨c + 1,by first|rfl|go_num,⟨by have := HK.out;omega⟩,by have := HK.out;omega,HINV⟩
      ·have h4' : decide ((c : Int) + 4 ≤ (s.size : Int)) = false := by simp;omega
       go_wp2_with fail
       go_roundg k2
       case measure=>omega
       case rel=>exact ⟨c + 1,by first|rfl|go_num,⟨by have := HK.out;omega⟩,by have := HK.out;omega,⟨HI.out.skip h4⟩⟩
  ·rw [if_neg hlt] at H
   have hlt' : decide ((a : Int) < (s.size : Int)) = false := by simp;omega
   obtain rfl := Option.some.inj H
   clear H
   have hpass := pass_any s fr s.size bf bo B B vo out wr hs (Nat.le_refl _) HI.out.fBlk HI.out.oBlk HI.out.sBlk HI.out.row hBW q75_
   have HPASS := Aside0.mk hpass
   clear hpass
   go_wp2_with fail
   refine HPASS.out.mono ?_
   rintro e w2 ⟨v1,w1,rfl,hb1,hr1,hg1,hg2,_⟩
   have HI3 := Aside0.mk (HI.out.outs l1 l2 l3 hg1 hg2 hb1 hr1 hBW)
   have hco : w2.cell? ⟨bo,0,none⟩ = some v1 := (blk_cell HI3.out.oBlk 0).trans rfl
   clear hb1 hr1 hg1 hg2 HPASS HI hBW hcs
   go_wp2_with fail
   go_ret2
   exact ⟨v1,rfl,HB0.out ▸ HI3.out.row,HB0.out ▸ HI3.out.below⟩
theorem bestGo_mono (k : Nat) (s : ByteArray) (p : Int) : ∀ (l : List Int) (off n : Int), LeO (bestGo k s p l off n) (bestGo (k + 1) s p l off n)
 | [],_,_=>fun _ h=>h
 | q :: l,off,n=>by
  intro r h
  simp only [bestGo] at h ⊢
  by_cases h1 : p - q ≤ 65535
  ·rw [if_pos h1] at h ⊢
   by_cases h2 : n < 64
   ·rw [if_pos h2] at h ⊢
    obtain ⟨m,hm,h⟩ := Option.bind_eq_some_iff.mp h
    refine Option.bind_eq_some_iff.mpr ⟨m,snappy_alike.mono _ _ _ k _ hm,?_⟩
    by_cases h3 : m > n
    ·rw [if_pos h3] at h ⊢
     exact bestGo_mono k s p l _ _ _ h
    ·rw [if_neg h3] at h ⊢
     exact bestGo_mono k s p l _ _ _ h
   ·rw [if_neg h2] at h ⊢
    exact h
  ·rw [if_neg h1] at h ⊢
   exact h
theorem bestF_mono (k : Nat) (s : ByteArray) (l : List Int) (p : Int) : LeO (bestF k s l p) (bestF (k + 1) s l p) := by
 intro r h
 unfold bestF at h ⊢
 by_cases h1 : p + 4 > (s.size : Int)
 ·rw [if_pos h1] at h ⊢
  exact h
 ·rw [if_neg h1] at h ⊢
  exact bestGo_mono _ _ _ _ _ _ _ h
theorem packGo_mono (k : Nat) (s : ByteArray) : ∀ (f a fr : Nat) (out : List S35), LeO (packGo k s f a fr out) (packGo (k + 1) s f a fr out)
 | 0,_,_,_=>fun _ h=>h
 | f + 1,a,fr,out=>by
  intro r h
  simp only [packGo] at h ⊢
  by_cases h1 : a < s.size
  ·rw [if_pos h1] at h ⊢
   obtain ⟨m,hm,h⟩ := Option.bind_eq_some_iff.mp h
   refine Option.bind_eq_some_iff.mpr ⟨m,bestF_mono _ _ _ _ _ hm,?_⟩
   by_cases h2 : 4 ≤ m.2
   ·rw [if_pos h2] at h ⊢
    by_cases h3 : m.2 ≤ 64
    ·rw [if_pos h3] at h ⊢
     exact packGo_mono k s f _ _ _ _ h
    ·rw [if_neg h3] at h
     cases h
   ·rw [if_neg h2] at h ⊢
    exact packGo_mono k s f _ _ _ _ h
  ·rw [if_neg h1] at h ⊢
   exact h
theorem snappy_Pack.mono : ∀ (a0 : ByteArray) (k : Nat), LeO (snappy_Pack.f k a0) (snappy_Pack.f (k + 1) a0) := by
 intro a0 k r h
 unfold snappy_Pack.f at h ⊢
 by_cases hs : a0.size > 65536
 ·rw [if_pos hs] at h ⊢
  exact h
 ·rw [if_neg hs] at h ⊢
  obtain ⟨l,hl,e⟩ := Option.bind_eq_some_iff.mp h
  exact Option.bind_eq_some_iff.mpr ⟨l,packGo_mono _ _ _ _ _ _ _ hl,e⟩
theorem snappy_Pack.calls (k : Nat) (a0 : ByteArray) (r1 : List (S35)) (r2 : Int) (w : World) (h : snappy_Pack.f k a0 = some (r1, r2)) :
  Calls Try.prog 15 #[.string a0] w fun e w'=>∃ v0_ : Value,e = .returned (.tuple #[v0_,.int .i64 r2]) ∧ Kd.R k35 35 w' w.heap.size (fun _=>True) v0_ r1 ∧ Below w.heap.size w w' := by
 unfold snappy_Pack.f at h
 by_cases hs : a0.size > 65536
 ·rw [if_pos hs] at h
  simp only [Option.some.injEq,Prod.mk.injEq] at h
  obtain ⟨rfl,rfl⟩ := h
  have hsz : decide (65536 < (a0.size : Int)) = true := by simp;omega
  go_enter Try.func15,Try.ntmps15
  go_wp2_with fail
  go_ret2
  exact ⟨_,rfl,Kd.R_nil _ _ _ _ _,below_alloc (Below.refl _ _) _⟩
 ·rw [if_neg hs] at h
  obtain ⟨l,hl,e⟩ := Option.bind_eq_some_iff.mp h
  simp only [Option.some.injEq,Prod.mk.injEq] at e
  obtain ⟨rfl,rfl⟩ := e
  exact pack_any k a0 w q75_ l hl

end Go.Proofs.Ythcjcmgdblhhfaa.PV
