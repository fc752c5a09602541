/- Parse(Show(e)) is e for every valid expression tree (P5.5): ArithBack answers true for every tree; no condition beyond those of the statement itself (the tables that its row lays). Last part: the law, its plain law, its row and its card. -/
import Derived.ChangeOld
import Derived.SizedLaws
import Derived.SevenTiedAt
import Derived.ShutString
import Derived.Test.YtglmdfddgmkmaaaDoorTie
import Derived.Test.YtglmdfddgmkmaaaDoorCards
import Derived.Test.YtglmdfddgmkmaaaDoorVvd3
section
namespace Go.Proofs.YtglmdfddgmkmaaaDoor.Q
open Go.RowKit Go.Proofs.YtglmdfddgmkmaaaDoorW.PrintWords Go.Proofs.YtglmdfddgmkmaaaDoorW.PrintLast Go.Proofs.YtglmdfddgmkmaaaDoorW.PrintMore
attribute [local go_sem] max2_int min2_int max_two min_two max_three min_three max_four min_four
set_option linter.unusedVariables false
set_option linter.unusedSimpArgs false
set_option maxHeartbeats 8000000 in
set_option maxRecDepth 100000 in
theorem jobshellref05_Same.calls (k : Nat) : ∀ (a0_0 : Int) (a0_1 : Int) (a0_2 : ByteArray) (A0_3 : Option Addr) (c0_3 : Nat) (l0_3 : List (S26)) (a1_0 : Int) (a1_1 : Int) (a1_2 : ByteArray) (A1_3 : Option Addr) (c1_3 : Nat) (l1_3 : List (S26)) (r : Bool) (w : World) (hr0_3 : Kd.C k26 w A0_3 l0_3.length l0_3) (hc0_3 : l0_3.length ≤ c0_3) (hr1_3 : Kd.C k26 w A1_3 l1_3.length l1_3) (hc1_3 : l1_3.length ≤ c1_3) (h : jobshellref05_Same.f k a0_0 a0_1 a0_2 l0_3 a1_0 a1_1 a1_2 l1_3 = some r),
 Calls Tryd.prog 20 #[.agg #[.int .i64 a0_0, .int .i64 a0_1, .string a0_2, .slice A0_3 l0_3.length c0_3], .agg #[.int .i64 a1_0, .int .i64 a1_1, .string a1_2, .slice A1_3 l1_3.length c1_3]] w fun e w' => e = .returned (.bool r) ∧ Below w.heap.size w w' := by
 induction k using Nat.strongRecOn with
 | _ k ih =>
 intro a0_0 a0_1 a0_2 A0_3 c0_3 l0_3 a1_0 a1_1 a1_2 A1_3 c1_3 l1_3 r w hr0_3 hc0_3 hr1_3 hc1_3 h
 cases k with
 | zero => exact absurd h (by simp [jobshellref05_Same.f])
 | succ k =>
 simp only [jobshellref05_Same.f] at h
 have hu26 := Tryd.underlying26
 have HR0_3 := Aside0.mk hr0_3
 have HC0_3 := Aside0.mk hc0_3
 clear hr0_3 hc0_3
 have HR1_3 := Aside0.mk hr1_3
 have HC1_3 := Aside0.mk hc1_3
 clear hr1_3 hc1_3
 have HB := Aside0.mk (Below.refl w.heap.size w)
 have H : (if a0_0 = a1_0 then (if a0_1 = a1_1 then (if a0_2.toList = a1_2.toList then (jobshellref05_Same.j0 k ((l0_3.length : Int) != (l1_3.length : Int)) a0_0 a0_1 a0_2 l0_3 a1_0 a1_1 a1_2 l1_3) else (jobshellref05_Same.j0 k true a0_0 a0_1 a0_2 l0_3 a1_0 a1_1 a1_2 l1_3)) else (jobshellref05_Same.j0 k true a0_0 a0_1 a0_2 l0_3 a1_0 a1_1 a1_2 l1_3)) else (jobshellref05_Same.j0 k true a0_0 a0_1 a0_2 l0_3 a1_0 a1_1 a1_2 l1_3)) = some r := h
 clear h
 have HC3 := Aside0.mk H
 clear H
 go_enter Tryd.func20, Tryd.ntmps20
 go_upto_region 1 with (first | ((with_reducible refine gate_dst (N := 2) rfl ?_); (try (refine gate_guard (by rfl) ?_; dsimp only)); refine box_event ?hg (N := 2) ?hd (cs := #[.int .i64 a0_0, .int .i64 a0_1, .string a0_2, .slice A0_3 l0_3.length c0_3]) (t := 26) ?hr ?_; (case hd => rfl); (case hg => rfl); (case hr => first | (go_simp; done) | (go_simp; rfl)); intro gb253 hg w4 hbox hb; have n0_ := Aside0.mk (below_step (by repeat (first | (with_reducible first | exact HB.out | apply below_alloc | apply pw_below_drewN | apply below_drew1) | exact HB.out)) hb); have n1_ := Aside0.mk (hbox); have n2_ := Aside0.mk ((by rw [hg]; exact (below_size (by repeat (first | (with_reducible first | exact HB.out | apply below_alloc | apply pw_below_drewN | apply below_drew1) | exact HB.out))) : w.heap.size ≤ gb253)); have n3_ := Aside0.mk ((by rw [hg]; exact (below_size (by repeat (first | (with_reducible first | exact HB.out | apply below_alloc | apply pw_below_drewN | apply below_drew1) | exact HB.out))) : w.heap.size ≤ gb253)); clear HB; have HB := n0_; have BK253 := n1_; have GW253 := n2_; have GE253 := n3_; clear n0_ n1_ n2_ n3_; clear hb hbox hg) | ((with_reducible refine gate_dst (N := 3) rfl ?_); (try (refine gate_guard (by rfl) ?_; dsimp only)); refine box_event ?hg (N := 3) ?hd (cs := #[.int .i64 a1_0, .int .i64 a1_1, .string a1_2, .slice A1_3 l1_3.length c1_3]) (t := 26) ?hr ?_; (case hd => rfl); (case hg => rfl); (case hr => first | (go_simp; done) | (go_simp; rfl)); intro gb254 hg w5 hbox hb; have n0_ := Aside0.mk (blk_below (g := gb253) (o := .cells #[.int .i64 a0_0, .int .i64 a0_1, .string a0_2, .slice A0_3 l0_3.length c0_3] 26 (0, 0)) (by (with_reducible repeat (first | refine blk_drewN ?_ _ | refine blk_drew ?_ | refine blk_alloc ?_ _)); exact BK253.out) hb); have n1_ := Aside0.mk (below_step (by repeat (first | (with_reducible first | exact HB.out | apply below_alloc | apply pw_below_drewN | apply below_drew1 | refine below_set ?_ GE253.out) | exact HB.out)) hb); have n2_ := Aside0.mk (hbox); have n3_ := Aside0.mk ((by rw [hg]; exact (below_size (by repeat (first | (with_reducible first | exact HB.out | apply below_alloc | apply pw_below_drewN | apply below_drew1 | refine below_set ?_ GE253.out) | exact HB.out))) : w.heap.size ≤ gb254)); have n4_ := Aside0.mk ((by rw [hg]; exact (below_size (by repeat (first | (with_reducible first | exact HB.out | apply below_alloc | apply pw_below_drewN | apply below_drew1 | refine below_set ?_ GE253.out) | exact HB.out))) : w.heap.size ≤ gb254)); have n5_ := Aside0.mk ((by rw [hg]; exact Nat.ne_of_lt (blk_lt (g := gb253) (o := .cells #[.int .i64 a0_0, .int .i64 a0_1, .string a0_2, .slice A0_3 l0_3.length c0_3] 26 (0, 0)) (by (with_reducible repeat (first | refine blk_drewN ?_ _ | refine blk_drew ?_ | refine blk_alloc ?_ _)); exact BK253.out)) : gb253 ≠ gb254)); have n6_ := Aside0.mk ((by rw [hg]; exact Nat.ne_of_gt (blk_lt (g := gb253) (o := .cells #[.int .i64 a0_0, .int .i64 a0_1, .string a0_2, .slice A0_3 l0_3.length c0_3] 26 (0, 0)) (by (with_reducible repeat (first | refine blk_drewN ?_ _ | refine blk_drew ?_ | refine blk_alloc ?_ _)); exact BK253.out)) : gb254 ≠ gb253)); clear BK253; clear HB; have BK253 := n0_; have HB := n1_; have BK254 := n2_; have GW254 := n3_; have GE254 := n4_; have NB253_254 := n5_; have NB254_253 := n6_; clear n0_ n1_ n2_ n3_ n4_ n5_ n6_; clear hb hbox hg))
 (try simp only [Act.put, List.setIfInBounds_toArray, List.set_cons_zero, List.set_cons_succ])
 go_cut [33] (fun v33 wc => ∃ (kq : Nat) (x33_2 : Bool), v33 = .bool x33_2 ∧ Aside0 (jobshellref05_Same.j0 kq x33_2 a0_0 a0_1 a0_2 l0_3 a1_0 a1_1 a1_2 l1_3 = some r) ∧ Aside0 (kq ≤ k) ∧ Aside0 (wc.heap[gb253]? = some (.cells #[.int .i64 a0_0, .int .i64 a0_1, .string a0_2, (.slice A0_3 l0_3.length c0_3)] 26 (0, 0))) ∧ Aside0 (wc.heap[gb254]? = some (.cells #[.int .i64 a1_0, .int .i64 a1_1, .string a1_2, (.slice A1_3 l1_3.length c1_3)] 26 (0, 0))) ∧ Aside0 (Below w.heap.size w wc))
 case first =>
  have H := HC3.out
  clear HC3
  by_cases c6 : a0_0 = a1_0
  ·rw [if_pos c6] at H
   have c6b0 : (a0_0 == a1_0) = true := beq_iff_eq.mpr c6
   have c6b1 : (a0_0 != a1_0) = false := bne_eq_false_iff_eq.mpr c6
   clear c6
   (first | rw [c6b0] | (simp only [i64_w, i32_w]; rw [c6b0]) | skip)
   by_cases c7 : a0_1 = a1_1
   ·rw [if_pos c7] at H
    have c7b0 : (a0_1 == a1_1) = true := beq_iff_eq.mpr c7
    have c7b1 : (a0_1 != a1_1) = false := bne_eq_false_iff_eq.mpr c7
    clear c7
    by_cases c8 : a0_2.toList = a1_2.toList
    ·rw [if_pos c8] at H
     have c8b0 : (a0_2.toList == a1_2.toList) = true := beq_iff_eq.mpr c8
     have c8b1 : (a0_2.toList != a1_2.toList) = false := bne_eq_false_iff_eq.mpr c8
     clear c8
     have H' := Aside0.mk H
     clear H
     have hnb9 := NB253_254.out
     have hnc9 := NB254_253.out
     have hcz10_0 : w5.cell? ⟨gb253, 0, none⟩ = some (.int .i64 a0_0) := (blk_cell BK253.out 0).trans rfl
     have hcz10_1 : w5.cell? ⟨gb253, 1, none⟩ = some (.int .i64 a0_1) := (blk_cell BK253.out 1).trans rfl
     have hcz10_2 : w5.cell? ⟨gb253, 2, none⟩ = some (.string a0_2) := (blk_cell BK253.out 2).trans rfl
     have hcz10_3 : w5.cell? ⟨gb253, 3, none⟩ = some (.slice A0_3 l0_3.length c0_3) := (blk_cell BK253.out 3).trans rfl
     have hfz10_0 := blk_frozen BK253.out 0
     have hfz10_1 := blk_frozen BK253.out 1
     have hfz10_2 := blk_frozen BK253.out 2
     have hfz10_3 := blk_frozen BK253.out 3
     have hcz11_0 : w5.cell? ⟨gb254, 0, none⟩ = some (.int .i64 a1_0) := (blk_cell BK254.out 0).trans rfl
     have hcz11_1 : w5.cell? ⟨gb254, 1, none⟩ = some (.int .i64 a1_1) := (blk_cell BK254.out 1).trans rfl
     have hcz11_2 : w5.cell? ⟨gb254, 2, none⟩ = some (.string a1_2) := (blk_cell BK254.out 2).trans rfl
     have hcz11_3 : w5.cell? ⟨gb254, 3, none⟩ = some (.slice A1_3 l1_3.length c1_3) := (blk_cell BK254.out 3).trans rfl
     have hfz11_0 := blk_frozen BK254.out 0
     have hfz11_1 := blk_frozen BK254.out 1
     have hfz11_2 := blk_frozen BK254.out 2
     have hfz11_3 := blk_frozen BK254.out 3
     go_wp2
     go_meet
     case rel => exact ⟨_, (((l0_3.length : Int) != (l1_3.length : Int))), (by first | rfl | (simp; done) | (simp [*]; done)), H', ⟨by first | omega | exact Nat.le_refl _⟩, ⟨by (with_reducible repeat (first | refine blk_drewN ?_ _ | refine blk_drew ?_ | refine blk_alloc ?_ _)); exact BK253.out⟩, ⟨by (with_reducible repeat (first | refine blk_drewN ?_ _ | refine blk_drew ?_ | refine blk_alloc ?_ _)); exact BK254.out⟩, ⟨by repeat (first | (with_reducible first | exact HB.out | apply below_alloc | apply pw_below_drewN | apply below_drew1 | refine below_set ?_ GE253.out | refine below_set ?_ GE254.out) | exact HB.out)⟩⟩
    ·rw [if_neg c8] at H
     have c8b0 : (a0_2.toList == a1_2.toList) = false := beq_eq_false_iff_ne.mpr c8
     have c8b1 : (a0_2.toList != a1_2.toList) = true := bne_iff_ne.mpr c8
     have H' := Aside0.mk H
     clear H
     have hnb12 := NB253_254.out
     have hnc12 := NB254_253.out
     have hcz13_0 : w5.cell? ⟨gb253, 0, none⟩ = some (.int .i64 a0_0) := (blk_cell BK253.out 0).trans rfl
     have hcz13_1 : w5.cell? ⟨gb253, 1, none⟩ = some (.int .i64 a0_1) := (blk_cell BK253.out 1).trans rfl
     have hcz13_2 : w5.cell? ⟨gb253, 2, none⟩ = some (.string a0_2) := (blk_cell BK253.out 2).trans rfl
     have hcz13_3 : w5.cell? ⟨gb253, 3, none⟩ = some (.slice A0_3 l0_3.length c0_3) := (blk_cell BK253.out 3).trans rfl
     have hfz13_0 := blk_frozen BK253.out 0
     have hfz13_1 := blk_frozen BK253.out 1
     have hfz13_2 := blk_frozen BK253.out 2
     have hfz13_3 := blk_frozen BK253.out 3
     have hcz14_0 : w5.cell? ⟨gb254, 0, none⟩ = some (.int .i64 a1_0) := (blk_cell BK254.out 0).trans rfl
     have hcz14_1 : w5.cell? ⟨gb254, 1, none⟩ = some (.int .i64 a1_1) := (blk_cell BK254.out 1).trans rfl
     have hcz14_2 : w5.cell? ⟨gb254, 2, none⟩ = some (.string a1_2) := (blk_cell BK254.out 2).trans rfl
     have hcz14_3 : w5.cell? ⟨gb254, 3, none⟩ = some (.slice A1_3 l1_3.length c1_3) := (blk_cell BK254.out 3).trans rfl
     have hfz14_0 := blk_frozen BK254.out 0
     have hfz14_1 := blk_frozen BK254.out 1
     have hfz14_2 := blk_frozen BK254.out 2
     have hfz14_3 := blk_frozen BK254.out 3
     go_wp2
     go_meet
     case rel => exact ⟨_, (true), (by first | rfl | (simp; done) | (simp [*]; done)), H', ⟨by first | omega | exact Nat.le_refl _⟩, ⟨by (with_reducible repeat (first | refine blk_drewN ?_ _ | refine blk_drew ?_ | refine blk_alloc ?_ _)); exact BK253.out⟩, ⟨by (with_reducible repeat (first | refine blk_drewN ?_ _ | refine blk_drew ?_ | refine blk_alloc ?_ _)); exact BK254.out⟩, ⟨by repeat (first | (with_reducible first | exact HB.out | apply below_alloc | apply pw_below_drewN | apply below_drew1 | refine below_set ?_ GE253.out | refine below_set ?_ GE254.out) | exact HB.out)⟩⟩
   ·rw [if_neg c7] at H
    have c7b0 : (a0_1 == a1_1) = false := beq_eq_false_iff_ne.mpr c7
    have c7b1 : (a0_1 != a1_1) = true := bne_iff_ne.mpr c7
    have H' := Aside0.mk H
    clear H
    have hnb15 := NB253_254.out
    have hnc15 := NB254_253.out
    have hcz16_0 : w5.cell? ⟨gb253, 0, none⟩ = some (.int .i64 a0_0) := (blk_cell BK253.out 0).trans rfl
    have hcz16_1 : w5.cell? ⟨gb253, 1, none⟩ = some (.int .i64 a0_1) := (blk_cell BK253.out 1).trans rfl
    have hcz16_2 : w5.cell? ⟨gb253, 2, none⟩ = some (.string a0_2) := (blk_cell BK253.out 2).trans rfl
    have hcz16_3 : w5.cell? ⟨gb253, 3, none⟩ = some (.slice A0_3 l0_3.length c0_3) := (blk_cell BK253.out 3).trans rfl
    have hfz16_0 := blk_frozen BK253.out 0
    have hfz16_1 := blk_frozen BK253.out 1
    have hfz16_2 := blk_frozen BK253.out 2
    have hfz16_3 := blk_frozen BK253.out 3
    have hcz17_0 : w5.cell? ⟨gb254, 0, none⟩ = some (.int .i64 a1_0) := (blk_cell BK254.out 0).trans rfl
    have hcz17_1 : w5.cell? ⟨gb254, 1, none⟩ = some (.int .i64 a1_1) := (blk_cell BK254.out 1).trans rfl
    have hcz17_2 : w5.cell? ⟨gb254, 2, none⟩ = some (.string a1_2) := (blk_cell BK254.out 2).trans rfl
    have hcz17_3 : w5.cell? ⟨gb254, 3, none⟩ = some (.slice A1_3 l1_3.length c1_3) := (blk_cell BK254.out 3).trans rfl
    have hfz17_0 := blk_frozen BK254.out 0
    have hfz17_1 := blk_frozen BK254.out 1
    have hfz17_2 := blk_frozen BK254.out 2
    have hfz17_3 := blk_frozen BK254.out 3
    go_wp2
    go_meet
    case rel => exact ⟨_, (true), (by first | rfl | (simp; done) | (simp [*]; done)), H', ⟨by first | omega | exact Nat.le_refl _⟩, ⟨by (with_reducible repeat (first | refine blk_drewN ?_ _ | refine blk_drew ?_ | refine blk_alloc ?_ _)); exact BK253.out⟩, ⟨by (with_reducible repeat (first | refine blk_drewN ?_ _ | refine blk_drew ?_ | refine blk_alloc ?_ _)); exact BK254.out⟩, ⟨by repeat (first | (with_reducible first | exact HB.out | apply below_alloc | apply pw_below_drewN | apply below_drew1 | refine below_set ?_ GE253.out | refine below_set ?_ GE254.out) | exact HB.out)⟩⟩
  ·rw [if_neg c6] at H
   have c6b0 : (a0_0 == a1_0) = false := beq_eq_false_iff_ne.mpr c6
   have c6b1 : (a0_0 != a1_0) = true := bne_iff_ne.mpr c6
   (first | rw [c6b0] | (simp only [i64_w, i32_w]; rw [c6b0]) | skip)
   have H' := Aside0.mk H
   clear H
   have hnb18 := NB253_254.out
   have hnc18 := NB254_253.out
   have hcz19_0 : w5.cell? ⟨gb253, 0, none⟩ = some (.int .i64 a0_0) := (blk_cell BK253.out 0).trans rfl
   have hcz19_1 : w5.cell? ⟨gb253, 1, none⟩ = some (.int .i64 a0_1) := (blk_cell BK253.out 1).trans rfl
   have hcz19_2 : w5.cell? ⟨gb253, 2, none⟩ = some (.string a0_2) := (blk_cell BK253.out 2).trans rfl
   have hcz19_3 : w5.cell? ⟨gb253, 3, none⟩ = some (.slice A0_3 l0_3.length c0_3) := (blk_cell BK253.out 3).trans rfl
   have hfz19_0 := blk_frozen BK253.out 0
   have hfz19_1 := blk_frozen BK253.out 1
   have hfz19_2 := blk_frozen BK253.out 2
   have hfz19_3 := blk_frozen BK253.out 3
   have hcz20_0 : w5.cell? ⟨gb254, 0, none⟩ = some (.int .i64 a1_0) := (blk_cell BK254.out 0).trans rfl
   have hcz20_1 : w5.cell? ⟨gb254, 1, none⟩ = some (.int .i64 a1_1) := (blk_cell BK254.out 1).trans rfl
   have hcz20_2 : w5.cell? ⟨gb254, 2, none⟩ = some (.string a1_2) := (blk_cell BK254.out 2).trans rfl
   have hcz20_3 : w5.cell? ⟨gb254, 3, none⟩ = some (.slice A1_3 l1_3.length c1_3) := (blk_cell BK254.out 3).trans rfl
   have hfz20_0 := blk_frozen BK254.out 0
   have hfz20_1 := blk_frozen BK254.out 1
   have hfz20_2 := blk_frozen BK254.out 2
   have hfz20_3 := blk_frozen BK254.out 3
   go_wp2
   go_meet
   case rel => exact ⟨_, (true), (by first | rfl | (simp; done) | (simp [*]; done)), H', ⟨by first | omega | exact Nat.le_refl _⟩, ⟨by (with_reducible repeat (first | refine blk_drewN ?_ _ | refine blk_drew ?_ | refine blk_alloc ?_ _)); exact BK253.out⟩, ⟨by (with_reducible repeat (first | refine blk_drewN ?_ _ | refine blk_drew ?_ | refine blk_alloc ?_ _)); exact BK254.out⟩, ⟨by repeat (first | (with_reducible first | exact HB.out | apply below_alloc | apply pw_below_drewN | apply below_drew1 | refine below_set ?_ GE253.out | refine below_set ?_ GE254.out) | exact HB.out)⟩⟩
 case rest =>
  clear HC3
  try clear c1
  try clear c2
  try clear p2
  try clear c6
  try clear c6b0
  try clear c6b1
  try clear c7
  try clear c7b0
  try clear c7b1
  try clear c8
  try clear c8b0
  try clear c8b1
  try clear c9
  try clear c12
  try clear c15
  try clear c18
  try clear c20
  try clear hcz10_0
  try clear hcz10_1
  try clear hcz10_2
  try clear hcz10_3
  try clear hcz11_0
  try clear hcz11_1
  try clear hcz11_2
  try clear hcz11_3
  try clear hcz13_0
  try clear hcz13_1
  try clear hcz13_2
  try clear hcz13_3
  try clear hcz14_0
  try clear hcz14_1
  try clear hcz14_2
  try clear hcz14_3
  try clear hcz16_0
  try clear hcz16_1
  try clear hcz16_2
  try clear hcz16_3
  try clear hcz17_0
  try clear hcz17_1
  try clear hcz17_2
  try clear hcz17_3
  try clear hcz19_0
  try clear hcz19_1
  try clear hcz19_2
  try clear hcz19_3
  try clear hcz20_0
  try clear hcz20_1
  try clear hcz20_2
  try clear hcz20_3
  try clear hfz10_0
  try clear hfz10_1
  try clear hfz10_2
  try clear hfz10_3
  try clear hfz11_0
  try clear hfz11_1
  try clear hfz11_2
  try clear hfz11_3
  try clear hfz13_0
  try clear hfz13_1
  try clear hfz13_2
  try clear hfz13_3
  try clear hfz14_0
  try clear hfz14_1
  try clear hfz14_2
  try clear hfz14_3
  try clear hfz16_0
  try clear hfz16_1
  try clear hfz16_2
  try clear hfz16_3
  try clear hfz17_0
  try clear hfz17_1
  try clear hfz17_2
  try clear hfz17_3
  try clear hfz19_0
  try clear hfz19_1
  try clear hfz19_2
  try clear hfz19_3
  try clear hfz20_0
  try clear hfz20_1
  try clear hfz20_2
  try clear hfz20_3
  obtain ⟨kq, x33_2, rfl, HA, HJ2, BK253, BK254, HB⟩ := hcut
  cases kq with
  | zero => exact absurd HA.out (by simp [jobshellref05_Same.j0])
  | succ kj2 =>
   have H := HA.out
   clear HA
   simp only [jobshellref05_Same.j0] at H
   by_cases c21 : x33_2 = true
   ·subst c21
    have H1 : (some false) = some r := by rw [if_pos rfl] at H; exact H
    clear H
    have H := H1
    clear H1
    obtain rfl := Option.some.inj H
    go_wp2
    go_ret
    exact ⟨by first | rfl | (simp [errW_none, errW_some] <;> rfl) | (simp [*, errW_none, errW_some] <;> rfl), by repeat (first | (with_reducible first | exact HB.out | apply below_alloc | apply pw_below_drewN | apply below_drew1 | refine below_set ?_ GE253.out | refine below_set ?_ GE254.out) | exact HB.out)⟩
   ·replace c21 := Bool.eq_false_iff.mpr c21
    subst c21
    have H1 : (jobshellref05_Same.l0 kj2 0 a0_0 a0_1 a0_2 l0_3 a1_0 a1_1 a1_2 l1_3) = some r := by rw [if_neg (show ¬ (false = true) by decide)] at H; exact H
    clear H
    have H := H1
    clear H1
    have H' := Aside0.mk H
    clear H
    go_wp2
    go_loopg [5] kj2 (fun kq v5 w' => ∃ (x5_2 : Int), v5 = .int .i64 x5_2 ∧ Aside0 (jobshellref05_Same.l0 kq x5_2 a0_0 a0_1 a0_2 l0_3 a1_0 a1_1 a1_2 l1_3 = some r) ∧ Aside0 (kq ≤ kj2) ∧ Aside0 (w'.heap[gb253]? = some (.cells #[.int .i64 a0_0, .int .i64 a0_1, .string a0_2, (.slice A0_3 l0_3.length c0_3)] 26 (0, 0))) ∧ Aside0 (w'.heap[gb254]? = some (.cells #[.int .i64 a1_0, .int .i64 a1_1, .string a1_2, (.slice A1_3 l1_3.length c1_3)] 26 (0, 0))) ∧ Aside0 (Below w.heap.size w w'))
    case atStart => exact ⟨(0), (by first | rfl | (simp; done) | (simp [*]; done)), H', ⟨Nat.le_refl _⟩, ⟨by (with_reducible repeat (first | refine blk_drewN ?_ _ | refine blk_drew ?_ | refine blk_alloc ?_ _)); exact BK253.out⟩, ⟨by (with_reducible repeat (first | refine blk_drewN ?_ _ | refine blk_drew ?_ | refine blk_alloc ?_ _)); exact BK254.out⟩, ⟨by repeat (first | (with_reducible first | exact HB.out | apply below_alloc | apply pw_below_drewN | apply below_drew1 | refine below_set ?_ GE253.out | refine below_set ?_ GE254.out) | exact HB.out)⟩⟩
    case round =>
     clear H'
     try clear c1
     try clear c2
     try clear p2
     try clear c6
     try clear c6b0
     try clear c6b1
     try clear c7
     try clear c7b0
     try clear c7b1
     try clear c8
     try clear c8b0
     try clear c8b1
     try clear c9
     try clear c12
     try clear c15
     try clear c18
     try clear c20
     try clear c21
     try clear hcz10_0
     try clear hcz10_1
     try clear hcz10_2
     try clear hcz10_3
     try clear hcz11_0
     try clear hcz11_1
     try clear hcz11_2
     try clear hcz11_3
     try clear hcz13_0
     try clear hcz13_1
     try clear hcz13_2
     try clear hcz13_3
     try clear hcz14_0
     try clear hcz14_1
     try clear hcz14_2
     try clear hcz14_3
     try clear hcz16_0
     try clear hcz16_1
     try clear hcz16_2
     try clear hcz16_3
     try clear hcz17_0
     try clear hcz17_1
     try clear hcz17_2
     try clear hcz17_3
     try clear hcz19_0
     try clear hcz19_1
     try clear hcz19_2
     try clear hcz19_3
     try clear hcz20_0
     try clear hcz20_1
     try clear hcz20_2
     try clear hcz20_3
     try clear hfz10_0
     try clear hfz10_1
     try clear hfz10_2
     try clear hfz10_3
     try clear hfz11_0
     try clear hfz11_1
     try clear hfz11_2
     try clear hfz11_3
     try clear hfz13_0
     try clear hfz13_1
     try clear hfz13_2
     try clear hfz13_3
     try clear hfz14_0
     try clear hfz14_1
     try clear hfz14_2
     try clear hfz14_3
     try clear hfz16_0
     try clear hfz16_1
     try clear hfz16_2
     try clear hfz16_3
     try clear hfz17_0
     try clear hfz17_1
     try clear hfz17_2
     try clear hfz17_3
     try clear hfz19_0
     try clear hfz19_1
     try clear hfz19_2
     try clear hfz19_3
     try clear hfz20_0
     try clear hfz20_1
     try clear hfz20_2
     try clear hfz20_3
     try clear p2
     obtain ⟨x5_2, rfl, HA, HK2, BK253, BK254, HB⟩ := hrel
     cases gk with
     | zero => exact absurd HA.out (by simp [jobshellref05_Same.l0])
     | succ k2 =>
      have H := HA.out
      clear HA
      simp only [jobshellref05_Same.l0] at H
      by_cases c22 : x5_2 < (l0_3.length : Int)
      ·rw [if_pos c22] at H
       have c22b0 : decide (x5_2 < (l0_3.length : Int)) = true := decide_eq_true c22
       clear c22
       by_cases c23 : 0 ≤ x5_2
       ·rw [if_pos c23] at H
        have c23b0 : decide (0 ≤ x5_2) = true := decide_eq_true c23
        clear c23
        by_cases c24 : x5_2 < (l1_3.length : Int)
        ·rw [if_pos c24] at H
         have c24b0 : decide (x5_2 < (l1_3.length : Int)) = true := decide_eq_true c24
         clear c24
         replace H := Option.bind_eq_some_iff.mp H
         obtain ⟨t257, A250, H⟩ := H
         replace H : (if t257 = true then (jobshellref05_Same.l0 k2 (wrap64 (x5_2 + 1)) a0_0 a0_1 a0_2 l0_3 a1_0 a1_1 a1_2 l1_3) else (some false)) = some r := H
         have A25 := Aside0.mk A250
         clear A250
         by_cases c26 : t257 = true
         ·subst c26
          have H1 : (jobshellref05_Same.l0 k2 (wrap64 (x5_2 + 1)) a0_0 a0_1 a0_2 l0_3 a1_0 a1_1 a1_2 l1_3) = some r := by rw [if_pos rfl] at H; exact H
          clear H
          have H := H1
          clear H1
          have H' := Aside0.mk H
          clear H
          have hnb27 := NB253_254.out
          have hnc27 := NB254_253.out
          have hcz28_0 : wr.cell? ⟨gb253, 0, none⟩ = some (.int .i64 a0_0) := (blk_cell BK253.out 0).trans rfl
          have hcz28_1 : wr.cell? ⟨gb253, 1, none⟩ = some (.int .i64 a0_1) := (blk_cell BK253.out 1).trans rfl
          have hcz28_2 : wr.cell? ⟨gb253, 2, none⟩ = some (.string a0_2) := (blk_cell BK253.out 2).trans rfl
          have hcz28_3 : wr.cell? ⟨gb253, 3, none⟩ = some (.slice A0_3 l0_3.length c0_3) := (blk_cell BK253.out 3).trans rfl
          have hfz28_0 := blk_frozen BK253.out 0
          have hfz28_1 := blk_frozen BK253.out 1
          have hfz28_2 := blk_frozen BK253.out 2
          have hfz28_3 := blk_frozen BK253.out 3
          try go_wp2
          have n0_ := Aside0.mk (blk_drew BK253.out)
          have n1_ := Aside0.mk (blk_drew BK254.out)
          have n2_ := Aside0.mk (below_drew1 HB.out)
          clear BK253
          clear BK254
          clear HB
          have BK253 := n0_
          have BK254 := n1_
          have HB := n2_
          clear n0_ n1_ n2_
          have p255 : 0 ≤ (x5_2 : Int) := of_decide_eq_true (by first | (with_reducible assumption) | assumption)
          have q255 : x5_2 < (l0_3.length : Int) := of_decide_eq_true (by first | (with_reducible assumption) | assumption)
          obtain ⟨ad255, A255_3, c255_3, e255, hx255_0, hx255_1, hx255_2, hx255_3, hl255_3, hi255_3⟩ := at_T26 HR0_3.out x5_2 p255 q255
          have hw255_3 := hx255_3
          have hw255_2 := hx255_2
          have hw255_1 := hx255_1
          have hw255_0 := hx255_0
          cases e255
          replace hx255_0 := (HB.out.cell (World.block_lt_of_cell? w _ hx255_0)).trans hx255_0
          replace hx255_1 := (HB.out.cell (World.block_lt_of_cell? w _ hx255_1)).trans hx255_1
          replace hx255_2 := (HB.out.cell (World.block_lt_of_cell? w _ hx255_2)).trans hx255_2
          replace hx255_3 := (HB.out.cell (World.block_lt_of_cell? w _ hx255_3)).trans hx255_3
          have HR255_3 := Aside0.mk hi255_3
          have HC255_3 := Aside0.mk hl255_3
          clear hi255_3 hl255_3
          replace p255 := eq_true p255
          replace q255 := eq_true q255
          have p256 : 0 ≤ (x5_2 : Int) := of_decide_eq_true (by first | (with_reducible assumption) | assumption)
          have q256 : x5_2 < (l1_3.length : Int) := of_decide_eq_true (by first | (with_reducible assumption) | assumption)
          obtain ⟨ad256, A256_3, c256_3, e256, hx256_0, hx256_1, hx256_2, hx256_3, hl256_3, hi256_3⟩ := at_T26 HR1_3.out x5_2 p256 q256
          have hw256_3 := hx256_3
          have hw256_2 := hx256_2
          have hw256_1 := hx256_1
          have hw256_0 := hx256_0
          cases e256
          replace hx256_0 := (HB.out.cell (World.block_lt_of_cell? w _ hx256_0)).trans hx256_0
          replace hx256_1 := (HB.out.cell (World.block_lt_of_cell? w _ hx256_1)).trans hx256_1
          replace hx256_2 := (HB.out.cell (World.block_lt_of_cell? w _ hx256_2)).trans hx256_2
          replace hx256_3 := (HB.out.cell (World.block_lt_of_cell? w _ hx256_3)).trans hx256_3
          have HR256_3 := Aside0.mk hi256_3
          have HC256_3 := Aside0.mk hl256_3
          clear hi256_3 hl256_3
          replace p256 := eq_true p256
          replace q256 := eq_true q256
          refine start_ (n := 12) (S := fun w' => w'.cell? ⟨gb253, 0, none⟩ = some (.int .i64 a0_0) ∧ w'.cell? ⟨gb253, 1, none⟩ = some (.int .i64 a0_1) ∧ w'.cell? ⟨gb253, 2, none⟩ = some (.string a0_2) ∧ w'.cell? ⟨gb253, 3, none⟩ = some (.slice (some ad255) l0_3.length c0_3) ∧ w'.cell? ⟨gb254, 0, none⟩ = some (.int .i64 a1_0) ∧ w'.cell? ⟨gb254, 1, none⟩ = some (.int .i64 a1_1) ∧ w'.cell? ⟨gb254, 2, none⟩ = some (.string a1_2) ∧ w'.cell? ⟨gb254, 3, none⟩ = some (.slice (some ad256) l1_3.length c1_3) ∧ w'.cell? (ad255.add ((x5_2).toNat * 4)) = some (.int .i64 ((rd_T26 l0_3 x5_2).f0)) ∧ w'.cell? ⟨(ad255.add ((x5_2).toNat * 4)).block, (ad255.add ((x5_2).toNat * 4)).off + 1, none⟩ = some (.int .i64 ((rd_T26 l0_3 x5_2).f1)) ∧ w'.cell? ⟨(ad255.add ((x5_2).toNat * 4)).block, (ad255.add ((x5_2).toNat * 4)).off + 2, none⟩ = some (.string ((rd_T26 l0_3 x5_2).f2)) ∧ w'.cell? ⟨(ad255.add ((x5_2).toNat * 4)).block, (ad255.add ((x5_2).toNat * 4)).off + 3, none⟩ = some (.slice A255_3 ((rd_T26 l0_3 x5_2).f3).length c255_3) ∧ w'.cell? (ad256.add ((x5_2).toNat * 4)) = some (.int .i64 ((rd_T26 l1_3 x5_2).f0)) ∧ w'.cell? ⟨(ad256.add ((x5_2).toNat * 4)).block, (ad256.add ((x5_2).toNat * 4)).off + 1, none⟩ = some (.int .i64 ((rd_T26 l1_3 x5_2).f1)) ∧ w'.cell? ⟨(ad256.add ((x5_2).toNat * 4)).block, (ad256.add ((x5_2).toNat * 4)).off + 2, none⟩ = some (.string ((rd_T26 l1_3 x5_2).f2)) ∧ w'.cell? ⟨(ad256.add ((x5_2).toNat * 4)).block, (ad256.add ((x5_2).toNat * 4)).off + 3, none⟩ = some (.slice A256_3 ((rd_T26 l1_3 x5_2).f3).length c256_3)) (ds := []) #[false, false, false, false, false, false, false, false, false, false, false, false] (by kernel_rfl) rfl rfl ⟨(blk_cell BK253.out 0).trans rfl, (blk_cell BK253.out 1).trans rfl, (blk_cell BK253.out 2).trans rfl, (blk_cell BK253.out 3).trans rfl, (blk_cell BK254.out 0).trans rfl, (blk_cell BK254.out 1).trans rfl, (blk_cell BK254.out 2).trans rfl, (blk_cell BK254.out 3).trans rfl, ((HB.out.cell (World.block_lt_of_cell? w _ hw255_0)).trans hw255_0), ((HB.out.cell (World.block_lt_of_cell? w _ hw255_1)).trans hw255_1), ((HB.out.cell (World.block_lt_of_cell? w _ hw255_2)).trans hw255_2), ((HB.out.cell (World.block_lt_of_cell? w _ hw255_3)).trans hw255_3), ((HB.out.cell (World.block_lt_of_cell? w _ hw256_0)).trans hw256_0), ((HB.out.cell (World.block_lt_of_cell? w _ hw256_1)).trans hw256_1), ((HB.out.cell (World.block_lt_of_cell? w _ hw256_2)).trans hw256_2), ((HB.out.cell (World.block_lt_of_cell? w _ hw256_3)).trans hw256_3)⟩ (fun hHeld => ?_); refine with_tabW jobshellref05_Same.tab6 jobshellref05_Same.bits6 (fun HT_ HW_ => ?_)
          generalize wr.drew = w29 at BK253 BK254 HB HR255_3 HR256_3 hx255_0 hx255_1 hx255_2 hx255_3 hx256_0 hx256_1 hx256_2 hx256_3 hHeld ⊢
          refine pure_ (i := 0) (N := some 41) (v := ?_) (a' := ?_) #[true, false, false, false, false, false, false, false, false, false, false, false] rfl rfl (any_of HT_.out (by kernel_rfl)) (fun _ _ _ h => h) (Or.inl ⟨by rfl, ?_⟩) ?_ ?_
          rotate_left
          ·intro w'
           go_simp
           with_reducible rfl
          rotate_left
          ·simp only [Act.put, List.setIfInBounds_toArray, List.set_cons_zero, List.set_cons_succ, i64_w, i32_w]
           rfl
          refine pure_ (i := 2) (N := some 43) (v := ?_) (a' := ?_) #[true, false, true, false, false, false, false, false, false, false, false, false] rfl rfl (any_of HT_.out (by kernel_rfl)) (fun _ _ _ h => h) (Or.inl ⟨by rfl, ?_⟩) ?_ ?_
          rotate_left
          ·intro w'
           go_simp
           with_reducible rfl
          rotate_left
          ·simp only [Act.put, List.setIfInBounds_toArray, List.set_cons_zero, List.set_cons_succ, i64_w, i32_w]
           rfl
          refine pure_ (i := 5) (N := some 46) (v := ?_) (a' := ?_) #[true, false, true, false, false, true, false, false, false, false, false, false] rfl rfl (any_of HT_.out (by kernel_rfl)) (fun _ _ _ h => h) (Or.inl ⟨by rfl, ?_⟩) ?_ ?_
          rotate_left
          ·intro w'
           go_simp
           with_reducible rfl
          rotate_left
          ·simp only [Act.put, List.setIfInBounds_toArray, List.set_cons_zero, List.set_cons_succ, i64_w, i32_w]
           rfl
          refine pure_ (i := 7) (N := some 48) (v := ?_) (a' := ?_) #[true, false, true, false, false, true, false, true, false, false, false, false] rfl rfl (any_of HT_.out (by kernel_rfl)) (fun _ _ _ h => h) (Or.inl ⟨by rfl, ?_⟩) ?_ ?_
          rotate_left
          ·intro w'
           go_simp
           with_reducible rfl
          rotate_left
          ·simp only [Act.put, List.setIfInBounds_toArray, List.set_cons_zero, List.set_cons_succ, i64_w, i32_w]
           rfl
          refine take_ (i := 1) (N := some 42) (v := ?_) (a' := ?_) #[true, true, true, false, false, true, false, true, false, false, false, false] rfl rfl (take_ofW HT_.out HW_.out (by kernel_rfl)) (fun _ _ _ h => h) (Or.inl ⟨by rfl, ?_⟩) hHeld ?_ ?_
          rotate_left
          ·rintro w' ⟨s0, s1, s2, s3, s4, s5, s6, s7, s8, s9, s10, s11, s12, s13, s14, s15⟩
           go_simp
           with_reducible rfl
          rotate_left
          ·simp only [Act.put, List.setIfInBounds_toArray, List.set_cons_zero, List.set_cons_succ, i64_w, i32_w]
           rfl
          refine pure_ (i := 3) (N := some 44) (v := ?_) (a' := ?_) #[true, true, true, true, false, true, false, true, false, false, false, false] rfl rfl (any_of HT_.out (by kernel_rfl)) (fun _ _ _ h => h) (Or.inl ⟨by rfl, ?_⟩) ?_ ?_
          rotate_left
          ·intro w'
           go_simp
           with_reducible rfl
          rotate_left
          ·simp only [Act.put, List.setIfInBounds_toArray, List.set_cons_zero, List.set_cons_succ, i64_w, i32_w]
           rfl
          refine take_ (i := 4) (N := some 45) (v := ?_) (a' := ?_) #[true, true, true, true, true, true, false, true, false, false, false, false] rfl rfl (take_ofW HT_.out HW_.out (by kernel_rfl)) (fun _ _ _ h => h) (Or.inl ⟨by rfl, ?_⟩) hHeld ?_ ?_
          rotate_left
          ·rintro w' ⟨s0, s1, s2, s3, s4, s5, s6, s7, s8, s9, s10, s11, s12, s13, s14, s15⟩
           go_simp
           with_reducible rfl
          rotate_left
          ·simp only [Act.put, List.setIfInBounds_toArray, List.set_cons_zero, List.set_cons_succ, i64_w, i32_w]
           rfl
          refine take_ (i := 6) (N := some 47) (v := ?_) (a' := ?_) #[true, true, true, true, true, true, true, true, false, false, false, false] rfl rfl (take_ofW HT_.out HW_.out (by kernel_rfl)) (fun _ _ _ h => h) (Or.inl ⟨by rfl, ?_⟩) hHeld ?_ ?_
          rotate_left
          ·rintro w' ⟨s0, s1, s2, s3, s4, s5, s6, s7, s8, s9, s10, s11, s12, s13, s14, s15⟩
           go_simp
           with_reducible rfl
          rotate_left
          ·simp only [Act.put, List.setIfInBounds_toArray, List.set_cons_zero, List.set_cons_succ, i64_w, i32_w]
           rfl
          refine pure_ (i := 8) (N := some 49) (v := ?_) (a' := ?_) #[true, true, true, true, true, true, true, true, true, false, false, false] rfl rfl (any_of HT_.out (by kernel_rfl)) (fun _ _ _ h => h) (Or.inl ⟨by rfl, ?_⟩) ?_ ?_
          rotate_left
          ·intro w'
           go_simp
           with_reducible rfl
          rotate_left
          ·simp only [Act.put, List.setIfInBounds_toArray, List.set_cons_zero, List.set_cons_succ, i64_w, i32_w]
           rfl
          refine take_ (i := 9) (N := some 50) (v := ?_) (a' := ?_) #[true, true, true, true, true, true, true, true, true, true, false, false] rfl rfl (take_ofW HT_.out HW_.out (by kernel_rfl)) (fun _ _ _ h => h) (Or.inl ⟨by rfl, ?_⟩) hHeld ?_ ?_
          rotate_left
          ·rintro w' ⟨s0, s1, s2, s3, s4, s5, s6, s7, s8, s9, s10, s11, s12, s13, s14, s15⟩
           go_simp
           with_reducible rfl
          rotate_left
          ·simp only [Act.put, List.setIfInBounds_toArray, List.set_cons_zero, List.set_cons_succ, i64_w, i32_w]
           rfl
          refine one_ (i := 10) (N := some 51) #[true, true, true, true, true, true, true, true, true, true, true, false] rfl rfl (one_of HT_.out (by kernel_rfl)) (by decide) (fun K hK => ?_)
          refine goes_ Tryd.func20 (by kernel_rfl) rfl #[.agg #[.int .i64 ((rd_T26 l0_3 x5_2).f0), .int .i64 ((rd_T26 l0_3 x5_2).f1), .string ((rd_T26 l0_3 x5_2).f2), .slice A255_3 ((rd_T26 l0_3 x5_2).f3).length c255_3], .agg #[.int .i64 ((rd_T26 l1_3 x5_2).f0), .int .i64 ((rd_T26 l1_3 x5_2).f1), .string ((rd_T26 l1_3 x5_2).f2), .slice A256_3 ((rd_T26 l1_3 x5_2).f3).length c256_3]] (by rfl) rfl rfl (by (try simp only [List.map_toArray, List.map_cons, List.map_nil]); first | done | rfl | (simp only [List.length_drop, List.length_take]; rfl)) ?_
          with_reducible refine (ih k2 (by have := HJ2.out; have := HK2.out; omega) ((rd_T26 l0_3 x5_2).f0) ((rd_T26 l0_3 x5_2).f1) ((rd_T26 l0_3 x5_2).f2) _ _ ((rd_T26 l0_3 x5_2).f3) ((rd_T26 l1_3 x5_2).f0) ((rd_T26 l1_3 x5_2).f1) ((rd_T26 l1_3 x5_2).f2) _ _ ((rd_T26 l1_3 x5_2).f3) true _ ?side1 ?side2 ?side3 ?side4 A25.out).mono ?_
          (case side1 => repeat (first | exact (Kd.C_below HR255_3.out HB.out) | (with_reducible refine Kd.C_alloc ?_ _) | (with_reducible refine Kd.C_drewN ?_ _) | (with_reducible refine Kd.C_drew ?_)))
          (case side2 => exact HC255_3.out)
          (case side3 => repeat (first | exact (Kd.C_below HR256_3.out HB.out) | (with_reducible refine Kd.C_alloc ?_ _) | (with_reducible refine Kd.C_drewN ?_ _) | (with_reducible refine Kd.C_drew ?_)))
          (case side4 => exact HC256_3.out)
          rintro e w30 ⟨rfl, hb⟩
          refine ⟨_, rfl, ?_⟩
          have n0_ := Aside0.mk (blk_below (g := gb253) (o := .cells #[.int .i64 a0_0, .int .i64 a0_1, .string a0_2, .slice (some ad255) l0_3.length c0_3] 26 (0, 0)) (by (with_reducible repeat (first | refine blk_drewN ?_ _ | refine blk_drew ?_ | refine blk_alloc ?_ _)); exact BK253.out) hb)
          have n1_ := Aside0.mk (blk_below (g := gb254) (o := .cells #[.int .i64 a1_0, .int .i64 a1_1, .string a1_2, .slice (some ad256) l1_3.length c1_3] 26 (0, 0)) (by (with_reducible repeat (first | refine blk_drewN ?_ _ | refine blk_drew ?_ | refine blk_alloc ?_ _)); exact BK254.out) hb)
          have n2_ := Aside0.mk (below_step (by repeat (first | (with_reducible first | exact HB.out | apply below_alloc | apply pw_below_drewN | apply below_drew1 | refine below_set ?_ GE253.out | refine below_set ?_ GE254.out) | exact HB.out)) hb)
          clear BK253
          clear BK254
          clear HB
          have BK253 := n0_
          have BK254 := n1_
          have HB := n2_
          clear n0_ n1_ n2_
          (try clear hb)
          (try clear hb2)
          (try clear hk)
          (try clear hi)
          refine hK.out _ _ ⟨(blk_cell BK253.out 0).trans rfl, (blk_cell BK253.out 1).trans rfl, (blk_cell BK253.out 2).trans rfl, (blk_cell BK253.out 3).trans rfl, (blk_cell BK254.out 0).trans rfl, (blk_cell BK254.out 1).trans rfl, (blk_cell BK254.out 2).trans rfl, (blk_cell BK254.out 3).trans rfl, ((HB.out.cell (World.block_lt_of_cell? w _ hw255_0)).trans hw255_0), ((HB.out.cell (World.block_lt_of_cell? w _ hw255_1)).trans hw255_1), ((HB.out.cell (World.block_lt_of_cell? w _ hw255_2)).trans hw255_2), ((HB.out.cell (World.block_lt_of_cell? w _ hw255_3)).trans hw255_3), ((HB.out.cell (World.block_lt_of_cell? w _ hw256_0)).trans hw256_0), ((HB.out.cell (World.block_lt_of_cell? w _ hw256_1)).trans hw256_1), ((HB.out.cell (World.block_lt_of_cell? w _ hw256_2)).trans hw256_2), ((HB.out.cell (World.block_lt_of_cell? w _ hw256_3)).trans hw256_3)⟩ (fun hHeld => ?_)
          clear hK K
          refine norm_ (a' := ?_) ?_ ?_
          rotate_left
          ·show Act.put _ (some 51) _ = _
           simp only [Act.put, List.setIfInBounds_toArray, List.set_cons_zero, List.set_cons_succ, i64_w, i32_w]
           rfl
          refine pure_ (i := 11) (N := some 52) (v := ?_) (a' := ?_) #[true, true, true, true, true, true, true, true, true, true, true, true] rfl rfl (any_of HT_.out (by kernel_rfl)) (fun _ _ _ h => h) (Or.inl ⟨by rfl, ?_⟩) ?_ ?_
          rotate_left
          ·intro w'
           go_simp
           with_reducible rfl
          rotate_left
          ·simp only [Act.put, List.setIfInBounds_toArray, List.set_cons_zero, List.set_cons_succ, i64_w, i32_w]
           rfl
          refine done_ (done_of HT_.out (by kernel_rfl)) ?_
          try go_wp2
          go_roundg k2
          case measure => have := HJ2.out; have := HK2.out; omega
          case rel => exact ⟨(wrap64 (x5_2 + 1)), (by first | rfl | (simp; done) | (simp [*]; done)), H', ⟨by have := HJ2.out; have := HK2.out; omega⟩, ⟨by (with_reducible repeat (first | refine blk_drewN ?_ _ | refine blk_drew ?_ | refine blk_alloc ?_ _)); exact BK253.out⟩, ⟨by (with_reducible repeat (first | refine blk_drewN ?_ _ | refine blk_drew ?_ | refine blk_alloc ?_ _)); exact BK254.out⟩, ⟨by repeat (first | (with_reducible first | exact HB.out | apply below_alloc | apply pw_below_drewN | apply below_drew1 | refine below_set ?_ GE253.out | refine below_set ?_ GE254.out) | exact HB.out)⟩⟩
         ·replace c26 := Bool.eq_false_iff.mpr c26
          subst c26
          have H1 : (some false) = some r := by rw [if_neg (show ¬ (false = true) by decide)] at H; exact H
          clear H
          have H := H1
          clear H1
          obtain rfl := Option.some.inj H
          have hnb31 := NB253_254.out
          have hnc31 := NB254_253.out
          have hcz32_0 : wr.cell? ⟨gb253, 0, none⟩ = some (.int .i64 a0_0) := (blk_cell BK253.out 0).trans rfl
          have hcz32_1 : wr.cell? ⟨gb253, 1, none⟩ = some (.int .i64 a0_1) := (blk_cell BK253.out 1).trans rfl
          have hcz32_2 : wr.cell? ⟨gb253, 2, none⟩ = some (.string a0_2) := (blk_cell BK253.out 2).trans rfl
          have hcz32_3 : wr.cell? ⟨gb253, 3, none⟩ = some (.slice A0_3 l0_3.length c0_3) := (blk_cell BK253.out 3).trans rfl
          have hfz32_0 := blk_frozen BK253.out 0
          have hfz32_1 := blk_frozen BK253.out 1
          have hfz32_2 := blk_frozen BK253.out 2
          have hfz32_3 := blk_frozen BK253.out 3
          try go_wp2
          have n0_ := Aside0.mk (blk_drew BK253.out)
          have n1_ := Aside0.mk (blk_drew BK254.out)
          have n2_ := Aside0.mk (below_drew1 HB.out)
          clear BK253
          clear BK254
          clear HB
          have BK253 := n0_
          have BK254 := n1_
          have HB := n2_
          clear n0_ n1_ n2_
          have p255 : 0 ≤ (x5_2 : Int) := of_decide_eq_true (by first | (with_reducible assumption) | assumption)
          have q255 : x5_2 < (l0_3.length : Int) := of_decide_eq_true (by first | (with_reducible assumption) | assumption)
          obtain ⟨ad255, A255_3, c255_3, e255, hx255_0, hx255_1, hx255_2, hx255_3, hl255_3, hi255_3⟩ := at_T26 HR0_3.out x5_2 p255 q255
          have hw255_3 := hx255_3
          have hw255_2 := hx255_2
          have hw255_1 := hx255_1
          have hw255_0 := hx255_0
          cases e255
          replace hx255_0 := (HB.out.cell (World.block_lt_of_cell? w _ hx255_0)).trans hx255_0
          replace hx255_1 := (HB.out.cell (World.block_lt_of_cell? w _ hx255_1)).trans hx255_1
          replace hx255_2 := (HB.out.cell (World.block_lt_of_cell? w _ hx255_2)).trans hx255_2
          replace hx255_3 := (HB.out.cell (World.block_lt_of_cell? w _ hx255_3)).trans hx255_3
          have HR255_3 := Aside0.mk hi255_3
          have HC255_3 := Aside0.mk hl255_3
          clear hi255_3 hl255_3
          replace p255 := eq_true p255
          replace q255 := eq_true q255
          have p256 : 0 ≤ (x5_2 : Int) := of_decide_eq_true (by first | (with_reducible assumption) | assumption)
          have q256 : x5_2 < (l1_3.length : Int) := of_decide_eq_true (by first | (with_reducible assumption) | assumption)
          obtain ⟨ad256, A256_3, c256_3, e256, hx256_0, hx256_1, hx256_2, hx256_3, hl256_3, hi256_3⟩ := at_T26 HR1_3.out x5_2 p256 q256
          have hw256_3 := hx256_3
          have hw256_2 := hx256_2
          have hw256_1 := hx256_1
          have hw256_0 := hx256_0
          cases e256
          replace hx256_0 := (HB.out.cell (World.block_lt_of_cell? w _ hx256_0)).trans hx256_0
          replace hx256_1 := (HB.out.cell (World.block_lt_of_cell? w _ hx256_1)).trans hx256_1
          replace hx256_2 := (HB.out.cell (World.block_lt_of_cell? w _ hx256_2)).trans hx256_2
          replace hx256_3 := (HB.out.cell (World.block_lt_of_cell? w _ hx256_3)).trans hx256_3
          have HR256_3 := Aside0.mk hi256_3
          have HC256_3 := Aside0.mk hl256_3
          clear hi256_3 hl256_3
          replace p256 := eq_true p256
          replace q256 := eq_true q256
          refine start_ (n := 12) (S := fun w' => w'.cell? ⟨gb253, 0, none⟩ = some (.int .i64 a0_0) ∧ w'.cell? ⟨gb253, 1, none⟩ = some (.int .i64 a0_1) ∧ w'.cell? ⟨gb253, 2, none⟩ = some (.string a0_2) ∧ w'.cell? ⟨gb253, 3, none⟩ = some (.slice (some ad255) l0_3.length c0_3) ∧ w'.cell? ⟨gb254, 0, none⟩ = some (.int .i64 a1_0) ∧ w'.cell? ⟨gb254, 1, none⟩ = some (.int .i64 a1_1) ∧ w'.cell? ⟨gb254, 2, none⟩ = some (.string a1_2) ∧ w'.cell? ⟨gb254, 3, none⟩ = some (.slice (some ad256) l1_3.length c1_3) ∧ w'.cell? (ad255.add ((x5_2).toNat * 4)) = some (.int .i64 ((rd_T26 l0_3 x5_2).f0)) ∧ w'.cell? ⟨(ad255.add ((x5_2).toNat * 4)).block, (ad255.add ((x5_2).toNat * 4)).off + 1, none⟩ = some (.int .i64 ((rd_T26 l0_3 x5_2).f1)) ∧ w'.cell? ⟨(ad255.add ((x5_2).toNat * 4)).block, (ad255.add ((x5_2).toNat * 4)).off + 2, none⟩ = some (.string ((rd_T26 l0_3 x5_2).f2)) ∧ w'.cell? ⟨(ad255.add ((x5_2).toNat * 4)).block, (ad255.add ((x5_2).toNat * 4)).off + 3, none⟩ = some (.slice A255_3 ((rd_T26 l0_3 x5_2).f3).length c255_3) ∧ w'.cell? (ad256.add ((x5_2).toNat * 4)) = some (.int .i64 ((rd_T26 l1_3 x5_2).f0)) ∧ w'.cell? ⟨(ad256.add ((x5_2).toNat * 4)).block, (ad256.add ((x5_2).toNat * 4)).off + 1, none⟩ = some (.int .i64 ((rd_T26 l1_3 x5_2).f1)) ∧ w'.cell? ⟨(ad256.add ((x5_2).toNat * 4)).block, (ad256.add ((x5_2).toNat * 4)).off + 2, none⟩ = some (.string ((rd_T26 l1_3 x5_2).f2)) ∧ w'.cell? ⟨(ad256.add ((x5_2).toNat * 4)).block, (ad256.add ((x5_2).toNat * 4)).off + 3, none⟩ = some (.slice A256_3 ((rd_T26 l1_3 x5_2).f3).length c256_3)) (ds := []) #[false, false, false, false, false, false, false, false, false, false, false, false] (by kernel_rfl) rfl rfl ⟨(blk_cell BK253.out 0).trans rfl, (blk_cell BK253.out 1).trans rfl, (blk_cell BK253.out 2).trans rfl, (blk_cell BK253.out 3).trans rfl, (blk_cell BK254.out 0).trans rfl, (blk_cell BK254.out 1).trans rfl, (blk_cell BK254.out 2).trans rfl, (blk_cell BK254.out 3).trans rfl, ((HB.out.cell (World.block_lt_of_cell? w _ hw255_0)).trans hw255_0), ((HB.out.cell (World.block_lt_of_cell? w _ hw255_1)).trans hw255_1), ((HB.out.cell (World.block_lt_of_cell? w _ hw255_2)).trans hw255_2), ((HB.out.cell (World.block_lt_of_cell? w _ hw255_3)).trans hw255_3), ((HB.out.cell (World.block_lt_of_cell? w _ hw256_0)).trans hw256_0), ((HB.out.cell (World.block_lt_of_cell? w _ hw256_1)).trans hw256_1), ((HB.out.cell (World.block_lt_of_cell? w _ hw256_2)).trans hw256_2), ((HB.out.cell (World.block_lt_of_cell? w _ hw256_3)).trans hw256_3)⟩ (fun hHeld => ?_); refine with_tabW jobshellref05_Same.tab6 jobshellref05_Same.bits6 (fun HT_ HW_ => ?_)
          generalize wr.drew = w33 at BK253 BK254 HB HR255_3 HR256_3 hx255_0 hx255_1 hx255_2 hx255_3 hx256_0 hx256_1 hx256_2 hx256_3 hHeld ⊢
          refine pure_ (i := 0) (N := some 41) (v := ?_) (a' := ?_) #[true, false, false, false, false, false, false, false, false, false, false, false] rfl rfl (any_of HT_.out (by kernel_rfl)) (fun _ _ _ h => h) (Or.inl ⟨by rfl, ?_⟩) ?_ ?_
          rotate_left
          ·intro w'
           go_simp
           with_reducible rfl
          rotate_left
          ·simp only [Act.put, List.setIfInBounds_toArray, List.set_cons_zero, List.set_cons_succ, i64_w, i32_w]
           rfl
          refine pure_ (i := 2) (N := some 43) (v := ?_) (a' := ?_) #[true, false, true, false, false, false, false, false, false, false, false, false] rfl rfl (any_of HT_.out (by kernel_rfl)) (fun _ _ _ h => h) (Or.inl ⟨by rfl, ?_⟩) ?_ ?_
          rotate_left
          ·intro w'
           go_simp
           with_reducible rfl
          rotate_left
          ·simp only [Act.put, List.setIfInBounds_toArray, List.set_cons_zero, List.set_cons_succ, i64_w, i32_w]
           rfl
          refine pure_ (i := 5) (N := some 46) (v := ?_) (a' := ?_) #[true, false, true, false, false, true, false, false, false, false, false, false] rfl rfl (any_of HT_.out (by kernel_rfl)) (fun _ _ _ h => h) (Or.inl ⟨by rfl, ?_⟩) ?_ ?_
          rotate_left
          ·intro w'
           go_simp
           with_reducible rfl
          rotate_left
          ·simp only [Act.put, List.setIfInBounds_toArray, List.set_cons_zero, List.set_cons_succ, i64_w, i32_w]
           rfl
          refine pure_ (i := 7) (N := some 48) (v := ?_) (a' := ?_) #[true, false, true, false, false, true, false, true, false, false, false, false] rfl rfl (any_of HT_.out (by kernel_rfl)) (fun _ _ _ h => h) (Or.inl ⟨by rfl, ?_⟩) ?_ ?_
          rotate_left
          ·intro w'
           go_simp
           with_reducible rfl
          rotate_left
          ·simp only [Act.put, List.setIfInBounds_toArray, List.set_cons_zero, List.set_cons_succ, i64_w, i32_w]
           rfl
          refine take_ (i := 1) (N := some 42) (v := ?_) (a' := ?_) #[true, true, true, false, false, true, false, true, false, false, false, false] rfl rfl (take_ofW HT_.out HW_.out (by kernel_rfl)) (fun _ _ _ h => h) (Or.inl ⟨by rfl, ?_⟩) hHeld ?_ ?_
          rotate_left
          ·rintro w' ⟨s0, s1, s2, s3, s4, s5, s6, s7, s8, s9, s10, s11, s12, s13, s14, s15⟩
           go_simp
           with_reducible rfl
          rotate_left
          ·simp only [Act.put, List.setIfInBounds_toArray, List.set_cons_zero, List.set_cons_succ, i64_w, i32_w]
           rfl
          refine pure_ (i := 3) (N := some 44) (v := ?_) (a' := ?_) #[true, true, true, true, false, true, false, true, false, false, false, false] rfl rfl (any_of HT_.out (by kernel_rfl)) (fun _ _ _ h => h) (Or.inl ⟨by rfl, ?_⟩) ?_ ?_
          rotate_left
          ·intro w'
           go_simp
           with_reducible rfl
          rotate_left
          ·simp only [Act.put, List.setIfInBounds_toArray, List.set_cons_zero, List.set_cons_succ, i64_w, i32_w]
           rfl
          refine take_ (i := 4) (N := some 45) (v := ?_) (a' := ?_) #[true, true, true, true, true, true, false, true, false, false, false, false] rfl rfl (take_ofW HT_.out HW_.out (by kernel_rfl)) (fun _ _ _ h => h) (Or.inl ⟨by rfl, ?_⟩) hHeld ?_ ?_
          rotate_left
          ·rintro w' ⟨s0, s1, s2, s3, s4, s5, s6, s7, s8, s9, s10, s11, s12, s13, s14, s15⟩
           go_simp
           with_reducible rfl
          rotate_left
          ·simp only [Act.put, List.setIfInBounds_toArray, List.set_cons_zero, List.set_cons_succ, i64_w, i32_w]
           rfl
          refine take_ (i := 6) (N := some 47) (v := ?_) (a' := ?_) #[true, true, true, true, true, true, true, true, false, false, false, false] rfl rfl (take_ofW HT_.out HW_.out (by kernel_rfl)) (fun _ _ _ h => h) (Or.inl ⟨by rfl, ?_⟩) hHeld ?_ ?_
          rotate_left
          ·rintro w' ⟨s0, s1, s2, s3, s4, s5, s6, s7, s8, s9, s10, s11, s12, s13, s14, s15⟩
           go_simp
           with_reducible rfl
          rotate_left
          ·simp only [Act.put, List.setIfInBounds_toArray, List.set_cons_zero, List.set_cons_succ, i64_w, i32_w]
           rfl
          refine pure_ (i := 8) (N := some 49) (v := ?_) (a' := ?_) #[true, true, true, true, true, true, true, true, true, false, false, false] rfl rfl (any_of HT_.out (by kernel_rfl)) (fun _ _ _ h => h) (Or.inl ⟨by rfl, ?_⟩) ?_ ?_
          rotate_left
          ·intro w'
           go_simp
           with_reducible rfl
          rotate_left
          ·simp only [Act.put, List.setIfInBounds_toArray, List.set_cons_zero, List.set_cons_succ, i64_w, i32_w]
           rfl
          refine take_ (i := 9) (N := some 50) (v := ?_) (a' := ?_) #[true, true, true, true, true, true, true, true, true, true, false, false] rfl rfl (take_ofW HT_.out HW_.out (by kernel_rfl)) (fun _ _ _ h => h) (Or.inl ⟨by rfl, ?_⟩) hHeld ?_ ?_
          rotate_left
          ·rintro w' ⟨s0, s1, s2, s3, s4, s5, s6, s7, s8, s9, s10, s11, s12, s13, s14, s15⟩
           go_simp
           with_reducible rfl
          rotate_left
          ·simp only [Act.put, List.setIfInBounds_toArray, List.set_cons_zero, List.set_cons_succ, i64_w, i32_w]
           rfl
          refine one_ (i := 10) (N := some 51) #[true, true, true, true, true, true, true, true, true, true, true, false] rfl rfl (one_of HT_.out (by kernel_rfl)) (by decide) (fun K hK => ?_)
          refine goes_ Tryd.func20 (by kernel_rfl) rfl #[.agg #[.int .i64 ((rd_T26 l0_3 x5_2).f0), .int .i64 ((rd_T26 l0_3 x5_2).f1), .string ((rd_T26 l0_3 x5_2).f2), .slice A255_3 ((rd_T26 l0_3 x5_2).f3).length c255_3], .agg #[.int .i64 ((rd_T26 l1_3 x5_2).f0), .int .i64 ((rd_T26 l1_3 x5_2).f1), .string ((rd_T26 l1_3 x5_2).f2), .slice A256_3 ((rd_T26 l1_3 x5_2).f3).length c256_3]] (by rfl) rfl rfl (by (try simp only [List.map_toArray, List.map_cons, List.map_nil]); first | done | rfl | (simp only [List.length_drop, List.length_take]; rfl)) ?_
          with_reducible refine (ih k2 (by have := HJ2.out; have := HK2.out; omega) ((rd_T26 l0_3 x5_2).f0) ((rd_T26 l0_3 x5_2).f1) ((rd_T26 l0_3 x5_2).f2) _ _ ((rd_T26 l0_3 x5_2).f3) ((rd_T26 l1_3 x5_2).f0) ((rd_T26 l1_3 x5_2).f1) ((rd_T26 l1_3 x5_2).f2) _ _ ((rd_T26 l1_3 x5_2).f3) false _ ?side1 ?side2 ?side3 ?side4 A25.out).mono ?_
          (case side1 => repeat (first | exact (Kd.C_below HR255_3.out HB.out) | (with_reducible refine Kd.C_alloc ?_ _) | (with_reducible refine Kd.C_drewN ?_ _) | (with_reducible refine Kd.C_drew ?_)))
          (case side2 => exact HC255_3.out)
          (case side3 => repeat (first | exact (Kd.C_below HR256_3.out HB.out) | (with_reducible refine Kd.C_alloc ?_ _) | (with_reducible refine Kd.C_drewN ?_ _) | (with_reducible refine Kd.C_drew ?_)))
          (case side4 => exact HC256_3.out)
          rintro e w34 ⟨rfl, hb⟩
          refine ⟨_, rfl, ?_⟩
          have n0_ := Aside0.mk (blk_below (g := gb253) (o := .cells #[.int .i64 a0_0, .int .i64 a0_1, .string a0_2, .slice (some ad255) l0_3.length c0_3] 26 (0, 0)) (by (with_reducible repeat (first | refine blk_drewN ?_ _ | refine blk_drew ?_ | refine blk_alloc ?_ _)); exact BK253.out) hb)
          have n1_ := Aside0.mk (blk_below (g := gb254) (o := .cells #[.int .i64 a1_0, .int .i64 a1_1, .string a1_2, .slice (some ad256) l1_3.length c1_3] 26 (0, 0)) (by (with_reducible repeat (first | refine blk_drewN ?_ _ | refine blk_drew ?_ | refine blk_alloc ?_ _)); exact BK254.out) hb)
          have n2_ := Aside0.mk (below_step (by repeat (first | (with_reducible first | exact HB.out | apply below_alloc | apply pw_below_drewN | apply below_drew1 | refine below_set ?_ GE253.out | refine below_set ?_ GE254.out) | exact HB.out)) hb)
          clear BK253
          clear BK254
          clear HB
          have BK253 := n0_
          have BK254 := n1_
          have HB := n2_
          clear n0_ n1_ n2_
          (try clear hb)
          (try clear hb2)
          (try clear hk)
          (try clear hi)
          refine hK.out _ _ ⟨(blk_cell BK253.out 0).trans rfl, (blk_cell BK253.out 1).trans rfl, (blk_cell BK253.out 2).trans rfl, (blk_cell BK253.out 3).trans rfl, (blk_cell BK254.out 0).trans rfl, (blk_cell BK254.out 1).trans rfl, (blk_cell BK254.out 2).trans rfl, (blk_cell BK254.out 3).trans rfl, ((HB.out.cell (World.block_lt_of_cell? w _ hw255_0)).trans hw255_0), ((HB.out.cell (World.block_lt_of_cell? w _ hw255_1)).trans hw255_1), ((HB.out.cell (World.block_lt_of_cell? w _ hw255_2)).trans hw255_2), ((HB.out.cell (World.block_lt_of_cell? w _ hw255_3)).trans hw255_3), ((HB.out.cell (World.block_lt_of_cell? w _ hw256_0)).trans hw256_0), ((HB.out.cell (World.block_lt_of_cell? w _ hw256_1)).trans hw256_1), ((HB.out.cell (World.block_lt_of_cell? w _ hw256_2)).trans hw256_2), ((HB.out.cell (World.block_lt_of_cell? w _ hw256_3)).trans hw256_3)⟩ (fun hHeld => ?_)
          clear hK K
          refine norm_ (a' := ?_) ?_ ?_
          rotate_left
          ·show Act.put _ (some 51) _ = _
           simp only [Act.put, List.setIfInBounds_toArray, List.set_cons_zero, List.set_cons_succ, i64_w, i32_w]
           rfl
          refine pure_ (i := 11) (N := some 52) (v := ?_) (a' := ?_) #[true, true, true, true, true, true, true, true, true, true, true, true] rfl rfl (any_of HT_.out (by kernel_rfl)) (fun _ _ _ h => h) (Or.inl ⟨by rfl, ?_⟩) ?_ ?_
          rotate_left
          ·intro w'
           go_simp
           with_reducible rfl
          rotate_left
          ·simp only [Act.put, List.setIfInBounds_toArray, List.set_cons_zero, List.set_cons_succ, i64_w, i32_w]
           rfl
          refine done_ (done_of HT_.out (by kernel_rfl)) ?_
          try go_wp2
          go_ret
          exact ⟨by first | rfl | (simp [errW_none, errW_some] <;> rfl) | (simp [*, errW_none, errW_some] <;> rfl), by repeat (first | (with_reducible first | exact HB.out | apply below_alloc | apply pw_below_drewN | apply below_drew1 | refine below_set ?_ GE253.out | refine below_set ?_ GE254.out) | exact HB.out)⟩
        ·rw [if_neg c24] at H
         exact absurd H (by simp)
       ·rw [if_neg c23] at H
        exact absurd H (by simp)
      ·rw [if_neg c22] at H
       have c22b0 : decide (x5_2 < (l0_3.length : Int)) = false := decide_eq_false c22
       clear c22
       obtain rfl := Option.some.inj H
       have hnb35 := NB253_254.out
       have hnc35 := NB254_253.out
       have hcz36_0 : wr.cell? ⟨gb253, 0, none⟩ = some (.int .i64 a0_0) := (blk_cell BK253.out 0).trans rfl
       have hcz36_1 : wr.cell? ⟨gb253, 1, none⟩ = some (.int .i64 a0_1) := (blk_cell BK253.out 1).trans rfl
       have hcz36_2 : wr.cell? ⟨gb253, 2, none⟩ = some (.string a0_2) := (blk_cell BK253.out 2).trans rfl
       have hcz36_3 : wr.cell? ⟨gb253, 3, none⟩ = some (.slice A0_3 l0_3.length c0_3) := (blk_cell BK253.out 3).trans rfl
       have hfz36_0 := blk_frozen BK253.out 0
       have hfz36_1 := blk_frozen BK253.out 1
       have hfz36_2 := blk_frozen BK253.out 2
       have hfz36_3 := blk_frozen BK253.out 3
       go_wp2
       go_ret
       exact ⟨by first | rfl | (simp [errW_none, errW_some] <;> rfl) | (simp [*, errW_none, errW_some] <;> rfl), by repeat (first | (with_reducible first | exact HB.out | apply below_alloc | apply pw_below_drewN | apply below_drew1 | refine below_set ?_ GE253.out | refine below_set ?_ GE254.out) | exact HB.out)⟩
end Go.Proofs.YtglmdfddgmkmaaaDoor.Q
end
section
namespace Go.Proofs.YtglmdfddgmkmaaaDoor.Q
open Go.RowKit Go.Proofs.YtglmdfddgmkmaaaDoorW.PrintWords Go.Proofs.YtglmdfddgmkmaaaDoorW.PrintLast Go.Proofs.YtglmdfddgmkmaaaDoorW.PrintMore
attribute [local go_sem] max2_int min2_int max_two min_two max_three min_three max_four min_four
set_option linter.unusedVariables false
set_option linter.unusedSimpArgs false
mutual
def jobshellref05_small.j0 : Nat → Int → Int → Bool → Int → Int → ByteArray → List (S26) → Option (Int)
 | 0, _, _, _, _, _, _, _ => none
 | k + 1, x1, x2, x19, x260000, x260001, x260002, x260003 => if x19 = true then (some (-1)) else (jobshellref05_small.l0 k (wrap64 (x1 - 1)) x2 0 x260000 x260001 x260002 x260003)
def jobshellref05_small.l0 : Nat → Int → Int → Int → Int → Int → ByteArray → List (S26) → Option (Int)
 | 0, _, _, _, _, _, _, _ => none
 | k + 1, x1, x2, x7, x260000, x260001, x260002, x260003 => if x7 < (x260003.length : Int) then (if x1 ≥ 0 then (if 0 ≤ x7 then ((jobshellref05_small.f k ((rd_T26 x260003 x7).f0) ((rd_T26 x260003 x7).f1) ((rd_T26 x260003 x7).f2) ((rd_T26 x260003 x7).f3) x1 (wrap64 (x2 - 1))).bind fun t261 => (jobshellref05_small.l0 k t261 x2 (wrap64 (x7 + 1)) x260000 x260001 x260002 x260003)) else (none)) else (some x1)) else (some x1)
def jobshellref05_small.f : Nat → Int → Int → ByteArray → List (S26) → Int → Int → Option (Int)
 | 0, _, _, _, _, _, _ => none
 | k + 1, a0_0, a0_1, a0_2, l0_3, a1, a2 => if a1 < 1 then (jobshellref05_small.j0 k a1 a2 true a0_0 a0_1 a0_2 l0_3) else (if a2 < 1 then (jobshellref05_small.j0 k a1 a2 true a0_0 a0_1 a0_2 l0_3) else (jobshellref05_small.j0 k a1 a2 (decide ((a0_2.size : Int) > 60)) a0_0 a0_1 a0_2 l0_3))
end
set_option maxHeartbeats 8000000 in
set_option maxRecDepth 100000 in
theorem jobshellref05_small.calls (k : Nat) : ∀ (a0_0 : Int) (a0_1 : Int) (a0_2 : ByteArray) (A0_3 : Option Addr) (c0_3 : Nat) (l0_3 : List (S26)) (a1 : Int) (a2 : Int) (r : Int) (w : World) (hr0_3 : Kd.C k26 w A0_3 l0_3.length l0_3) (hc0_3 : l0_3.length ≤ c0_3) (h : jobshellref05_small.f k a0_0 a0_1 a0_2 l0_3 a1 a2 = some r),
 Calls Tryd.prog 50 #[.agg #[.int .i64 a0_0, .int .i64 a0_1, .string a0_2, .slice A0_3 l0_3.length c0_3], .int .i64 a1, .int .i64 a2] w fun e w' => e = .returned (.int .i64 r) ∧ Below w.heap.size w w' := by
 induction k using Nat.strongRecOn with
 | _ k ih =>
 intro a0_0 a0_1 a0_2 A0_3 c0_3 l0_3 a1 a2 r w hr0_3 hc0_3 h
 cases k with
 | zero => exact absurd h (by simp [jobshellref05_small.f])
 | succ k =>
 simp only [jobshellref05_small.f] at h
 have hu26 := Tryd.underlying26
 have HR0_3 := Aside0.mk hr0_3
 have HC0_3 := Aside0.mk hc0_3
 clear hr0_3 hc0_3
 have HB := Aside0.mk (Below.refl w.heap.size w)
 have H : (if a1 < 1 then (jobshellref05_small.j0 k a1 a2 true a0_0 a0_1 a0_2 l0_3) else (if a2 < 1 then (jobshellref05_small.j0 k a1 a2 true a0_0 a0_1 a0_2 l0_3) else (jobshellref05_small.j0 k a1 a2 (decide ((a0_2.size : Int) > 60)) a0_0 a0_1 a0_2 l0_3))) = some r := h
 clear h
 have HC4 := Aside0.mk H
 clear H
 go_enter Tryd.func50, Tryd.ntmps50
 go_upto_region 1 with (first | ((with_reducible refine gate_dst (N := 3) rfl ?_); (try (refine gate_guard (by rfl) ?_; dsimp only)); refine box_event ?hg (N := 3) ?hd (cs := #[.int .i64 a0_0, .int .i64 a0_1, .string a0_2, .slice A0_3 l0_3.length c0_3]) (t := 26) ?hr ?_; (case hd => rfl); (case hg => rfl); (case hr => first | (go_simp; done) | (go_simp; rfl)); intro gb259 hg w5 hbox hb; have n0_ := Aside0.mk (below_step (by repeat (first | (with_reducible first | exact HB.out | apply below_alloc | apply pw_below_drewN | apply below_drew1) | exact HB.out)) hb); have n1_ := Aside0.mk (hbox); have n2_ := Aside0.mk ((by rw [hg]; exact (below_size (by repeat (first | (with_reducible first | exact HB.out | apply below_alloc | apply pw_below_drewN | apply below_drew1) | exact HB.out))) : w.heap.size ≤ gb259)); have n3_ := Aside0.mk ((by rw [hg]; exact (below_size (by repeat (first | (with_reducible first | exact HB.out | apply below_alloc | apply pw_below_drewN | apply below_drew1) | exact HB.out))) : w.heap.size ≤ gb259)); clear HB; have HB := n0_; have BK259 := n1_; have GW259 := n2_; have GE259 := n3_; clear n0_ n1_ n2_ n3_; clear hb hbox hg))
 (try simp only [Act.put, List.setIfInBounds_toArray, List.set_cons_zero, List.set_cons_succ])
 go_cut [19] (fun v19 wc => ∃ (kq : Nat) (x19_3 : Bool), v19 = .bool x19_3 ∧ Aside0 (jobshellref05_small.j0 kq a1 a2 x19_3 a0_0 a0_1 a0_2 l0_3 = some r) ∧ Aside0 (kq ≤ k) ∧ Aside0 (wc.heap[gb259]? = some (.cells #[.int .i64 a0_0, .int .i64 a0_1, .string a0_2, (.slice A0_3 l0_3.length c0_3)] 26 (0, 0))) ∧ Aside0 (Below w.heap.size w wc))
 case first =>
  have H := HC4.out
  clear HC4
  by_cases c6 : a1 < 1
  ·rw [if_pos c6] at H
   have c6b0 : decide (a1 < 1) = true := decide_eq_true c6
   clear c6
   (first | rw [c6b0] | (simp only [i64_w, i32_w]; rw [c6b0]) | skip)
   have H' := Aside0.mk H
   clear H
   go_wp2
   go_meet
   case rel => exact ⟨_, (true), (by first | rfl | (simp; done) | (simp [*]; done)), H', ⟨by first | omega | exact Nat.le_refl _⟩, ⟨by (with_reducible repeat (first | refine blk_drewN ?_ _ | refine blk_drew ?_ | refine blk_alloc ?_ _)); exact BK259.out⟩, ⟨by repeat (first | (with_reducible first | exact HB.out | apply below_alloc | apply pw_below_drewN | apply below_drew1 | refine below_set ?_ GE259.out) | exact HB.out)⟩⟩
  ·rw [if_neg c6] at H
   have c6b0 : decide (a1 < 1) = false := decide_eq_false c6
   clear c6
   (first | rw [c6b0] | (simp only [i64_w, i32_w]; rw [c6b0]) | skip)
   by_cases c7 : a2 < 1
   ·rw [if_pos c7] at H
    have c7b0 : decide (a2 < 1) = true := decide_eq_true c7
    clear c7
    have H' := Aside0.mk H
    clear H
    go_wp2
    go_meet
    case rel => exact ⟨_, (true), (by first | rfl | (simp; done) | (simp [*]; done)), H', ⟨by first | omega | exact Nat.le_refl _⟩, ⟨by (with_reducible repeat (first | refine blk_drewN ?_ _ | refine blk_drew ?_ | refine blk_alloc ?_ _)); exact BK259.out⟩, ⟨by repeat (first | (with_reducible first | exact HB.out | apply below_alloc | apply pw_below_drewN | apply below_drew1 | refine below_set ?_ GE259.out) | exact HB.out)⟩⟩
   ·rw [if_neg c7] at H
    have c7b0 : decide (a2 < 1) = false := decide_eq_false c7
    clear c7
    have H' := Aside0.mk H
    clear H
    have hcz8_0 : w5.cell? ⟨gb259, 0, none⟩ = some (.int .i64 a0_0) := (blk_cell BK259.out 0).trans rfl
    have hcz8_1 : w5.cell? ⟨gb259, 1, none⟩ = some (.int .i64 a0_1) := (blk_cell BK259.out 1).trans rfl
    have hcz8_2 : w5.cell? ⟨gb259, 2, none⟩ = some (.string a0_2) := (blk_cell BK259.out 2).trans rfl
    have hcz8_3 : w5.cell? ⟨gb259, 3, none⟩ = some (.slice A0_3 l0_3.length c0_3) := (blk_cell BK259.out 3).trans rfl
    have hfz8_0 := blk_frozen BK259.out 0
    have hfz8_1 := blk_frozen BK259.out 1
    have hfz8_2 := blk_frozen BK259.out 2
    have hfz8_3 := blk_frozen BK259.out 3
    go_wp2
    go_meet
    case rel => exact ⟨_, (decide ((a0_2.size : Int) > 60)), (by first | rfl | (simp; done) | (simp [*]; done)), H', ⟨by first | omega | exact Nat.le_refl _⟩, ⟨by (with_reducible repeat (first | refine blk_drewN ?_ _ | refine blk_drew ?_ | refine blk_alloc ?_ _)); exact BK259.out⟩, ⟨by repeat (first | (with_reducible first | exact HB.out | apply below_alloc | apply pw_below_drewN | apply below_drew1 | refine below_set ?_ GE259.out) | exact HB.out)⟩⟩
 case rest =>
  clear HC4
  try clear p2
  try clear c5
  try clear c6
  try clear c6b0
  try clear c7
  try clear c7b0
  try clear hcz8_0
  try clear hcz8_1
  try clear hcz8_2
  try clear hcz8_3
  try clear hfz8_0
  try clear hfz8_1
  try clear hfz8_2
  try clear hfz8_3
  obtain ⟨kq, x19_3, rfl, HA, HJ3, BK259, HB⟩ := hcut
  cases kq with
  | zero => exact absurd HA.out (by simp [jobshellref05_small.j0])
  | succ kj3 =>
   have H := HA.out
   clear HA
   simp only [jobshellref05_small.j0] at H
   by_cases c9 : x19_3 = true
   ·subst c9
    have H1 : (some (-1)) = some r := by rw [if_pos rfl] at H; exact H
    clear H
    have H := H1
    clear H1
    obtain rfl := Option.some.inj H
    go_wp2
    go_ret
    exact ⟨by first | rfl | (simp [errW_none, errW_some] <;> rfl) | (simp [*, errW_none, errW_some] <;> rfl), by repeat (first | (with_reducible first | exact HB.out | apply below_alloc | apply pw_below_drewN | apply below_drew1 | refine below_set ?_ GE259.out) | exact HB.out)⟩
   ·replace c9 := Bool.eq_false_iff.mpr c9
    subst c9
    have H1 : (jobshellref05_small.l0 kj3 (wrap64 (a1 - 1)) a2 0 a0_0 a0_1 a0_2 l0_3) = some r := by rw [if_neg (show ¬ (false = true) by decide)] at H; exact H
    clear H
    have H := H1
    clear H1
    have H' := Aside0.mk H
    clear H
    go_wp2
    go_loopg [1, 7] kj3 (fun kq v1 v7 w' => ∃ (x1_2 : Int) (x7_2 : Int), v1 = .int .i64 x1_2 ∧ v7 = .int .i64 x7_2 ∧ Aside0 (jobshellref05_small.l0 kq x1_2 a2 x7_2 a0_0 a0_1 a0_2 l0_3 = some r) ∧ Aside0 (kq ≤ kj3) ∧ Aside0 (w'.heap[gb259]? = some (.cells #[.int .i64 a0_0, .int .i64 a0_1, .string a0_2, (.slice A0_3 l0_3.length c0_3)] 26 (0, 0))) ∧ Aside0 (Below w.heap.size w w'))
    case atStart => exact ⟨(wrap64 (a1 - 1)), (0), (by first | rfl | (simp; done) | (simp [*]; done)), (by first | rfl | (simp; done) | (simp [*]; done)), H', ⟨Nat.le_refl _⟩, ⟨by (with_reducible repeat (first | refine blk_drewN ?_ _ | refine blk_drew ?_ | refine blk_alloc ?_ _)); exact BK259.out⟩, ⟨by repeat (first | (with_reducible first | exact HB.out | apply below_alloc | apply pw_below_drewN | apply below_drew1 | refine below_set ?_ GE259.out) | exact HB.out)⟩⟩
    case round =>
     clear H'
     try clear p2
     try clear c5
     try clear c6
     try clear c6b0
     try clear p6
     try clear c7
     try clear c7b0
     try clear c9
     try clear hcz8_0
     try clear hcz8_1
     try clear hcz8_2
     try clear hcz8_3
     try clear hfz8_0
     try clear hfz8_1
     try clear hfz8_2
     try clear hfz8_3
     try clear p2
     obtain ⟨x1_2, x7_2, rfl, rfl, HA, HK2, BK259, HB⟩ := hrel
     cases gk with
     | zero => exact absurd HA.out (by simp [jobshellref05_small.l0])
     | succ k2 =>
      have H := HA.out
      clear HA
      simp only [jobshellref05_small.l0] at H
      by_cases c10 : x7_2 < (l0_3.length : Int)
      ·rw [if_pos c10] at H
       have c10b0 : decide (x7_2 < (l0_3.length : Int)) = true := decide_eq_true c10
       clear c10
       by_cases c11 : x1_2 ≥ 0
       ·rw [if_pos c11] at H
        have c11b0 : decide (0 ≤ x1_2) = true := decide_eq_true c11
        clear c11
        by_cases c12 : 0 ≤ x7_2
        ·rw [if_pos c12] at H
         have c12b0 : decide (0 ≤ x7_2) = true := decide_eq_true c12
         clear c12
         replace H := Option.bind_eq_some_iff.mp H
         obtain ⟨t261, A130, H⟩ := H
         replace H : (jobshellref05_small.l0 k2 t261 a2 (wrap64 (x7_2 + 1)) a0_0 a0_1 a0_2 l0_3) = some r := H
         have A13 := Aside0.mk A130
         clear A130
         have H' := Aside0.mk H
         clear H
         have hcz14_0 : wr.cell? ⟨gb259, 0, none⟩ = some (.int .i64 a0_0) := (blk_cell BK259.out 0).trans rfl
         have hcz14_1 : wr.cell? ⟨gb259, 1, none⟩ = some (.int .i64 a0_1) := (blk_cell BK259.out 1).trans rfl
         have hcz14_2 : wr.cell? ⟨gb259, 2, none⟩ = some (.string a0_2) := (blk_cell BK259.out 2).trans rfl
         have hcz14_3 : wr.cell? ⟨gb259, 3, none⟩ = some (.slice A0_3 l0_3.length c0_3) := (blk_cell BK259.out 3).trans rfl
         have hfz14_0 := blk_frozen BK259.out 0
         have hfz14_1 := blk_frozen BK259.out 1
         have hfz14_2 := blk_frozen BK259.out 2
         have hfz14_3 := blk_frozen BK259.out 3
         have p260 : 0 ≤ (x7_2 : Int) := of_decide_eq_true (by first | (with_reducible assumption) | assumption)
         have q260 : x7_2 < (l0_3.length : Int) := of_decide_eq_true (by first | (with_reducible assumption) | assumption)
         obtain ⟨ad260, A260_3, c260_3, e260, hx260_0, hx260_1, hx260_2, hx260_3, hl260_3, hi260_3⟩ := at_T26 HR0_3.out x7_2 p260 q260
         cases e260
         replace hx260_0 := (HB.out.cell (World.block_lt_of_cell? w _ hx260_0)).trans hx260_0
         replace hx260_1 := (HB.out.cell (World.block_lt_of_cell? w _ hx260_1)).trans hx260_1
         replace hx260_2 := (HB.out.cell (World.block_lt_of_cell? w _ hx260_2)).trans hx260_2
         replace hx260_3 := (HB.out.cell (World.block_lt_of_cell? w _ hx260_3)).trans hx260_3
         have HR260_3 := Aside0.mk hi260_3
         have HC260_3 := Aside0.mk hl260_3
         clear hi260_3 hl260_3
         replace p260 := eq_true p260
         replace q260 := eq_true q260
         go_wp2_with (first | ((with_reducible refine gate_callee (f := 50) rfl ?_); refine goesL_ (some 41) rfl rfl Tryd.func50 (by kernel_rfl) rfl #[.agg #[.int .i64 ((rd_T26 l0_3 x7_2).f0), .int .i64 ((rd_T26 l0_3 x7_2).f1), .string ((rd_T26 l0_3 x7_2).f2), .slice A260_3 ((rd_T26 l0_3 x7_2).f3).length c260_3], .int .i64 x1_2, .int .i64 (wrap64 (a2 - 1))] rfl (by (try simp only [List.map_toArray, List.map_cons, List.map_nil]); first | done | rfl | (simp only [List.length_drop, List.length_take]; rfl)) ?_; (with_reducible refine (ih k2 (by have := HJ3.out; have := HK2.out; omega) ((rd_T26 l0_3 x7_2).f0) ((rd_T26 l0_3 x7_2).f1) ((rd_T26 l0_3 x7_2).f2) _ _ ((rd_T26 l0_3 x7_2).f3) x1_2 (wrap64 (a2 - 1)) t261 _ ?side1 ?side2 A13.out).mono ?_); (case side1 => repeat (first | exact (Kd.C_below HR260_3.out HB.out) | (with_reducible refine Kd.C_alloc ?_ _) | (with_reducible refine Kd.C_drewN ?_ _) | (with_reducible refine Kd.C_drew ?_))); (case side2 => exact HC260_3.out); rintro e w15 ⟨rfl, hb⟩; refine ⟨_, rfl, ?_⟩; have n0_ := Aside0.mk (blk_below (g := gb259) (o := .cells #[.int .i64 a0_0, .int .i64 a0_1, .string a0_2, .slice (some ad260) l0_3.length c0_3] 26 (0, 0)) (by (with_reducible repeat (first | refine blk_drewN ?_ _ | refine blk_drew ?_ | refine blk_alloc ?_ _)); exact BK259.out) hb); have n1_ := Aside0.mk (below_step (by repeat (first | (with_reducible first | exact HB.out | apply below_alloc | apply pw_below_drewN | apply below_drew1 | refine below_set ?_ GE259.out) | exact HB.out)) hb); clear BK259; clear HB; have BK259 := n0_; have HB := n1_; clear n0_ n1_; (try clear hb); (try clear hb2); (try clear hk); (try clear hi)))
         go_roundg k2
         case measure => have := HJ3.out; have := HK2.out; omega
         case rel => exact ⟨(t261), (wrap64 (x7_2 + 1)), (by first | rfl | (simp; done) | (simp [*]; done)), (by first | rfl | (simp; done) | (simp [*]; done)), H', ⟨by have := HJ3.out; have := HK2.out; omega⟩, ⟨by (with_reducible repeat (first | refine blk_drewN ?_ _ | refine blk_drew ?_ | refine blk_alloc ?_ _)); exact BK259.out⟩, ⟨by repeat (first | (with_reducible first | exact HB.out | apply below_alloc | apply pw_below_drewN | apply below_drew1 | refine below_set ?_ GE259.out) | exact HB.out)⟩⟩
        ·rw [if_neg c12] at H
         exact absurd H (by simp)
       ·rw [if_neg c11] at H
        have c11b0 : decide (0 ≤ x1_2) = false := decide_eq_false c11
        clear c11
        obtain rfl := Option.some.inj H
        have hcz16_0 : wr.cell? ⟨gb259, 0, none⟩ = some (.int .i64 a0_0) := (blk_cell BK259.out 0).trans rfl
        have hcz16_1 : wr.cell? ⟨gb259, 1, none⟩ = some (.int .i64 a0_1) := (blk_cell BK259.out 1).trans rfl
        have hcz16_2 : wr.cell? ⟨gb259, 2, none⟩ = some (.string a0_2) := (blk_cell BK259.out 2).trans rfl
        have hcz16_3 : wr.cell? ⟨gb259, 3, none⟩ = some (.slice A0_3 l0_3.length c0_3) := (blk_cell BK259.out 3).trans rfl
        have hfz16_0 := blk_frozen BK259.out 0
        have hfz16_1 := blk_frozen BK259.out 1
        have hfz16_2 := blk_frozen BK259.out 2
        have hfz16_3 := blk_frozen BK259.out 3
        go_wp2
        go_ret
        exact ⟨by first | rfl | (simp [errW_none, errW_some] <;> rfl) | (simp [*, errW_none, errW_some] <;> rfl), by repeat (first | (with_reducible first | exact HB.out | apply below_alloc | apply pw_below_drewN | apply below_drew1 | refine below_set ?_ GE259.out) | exact HB.out)⟩
      ·rw [if_neg c10] at H
       have c10b0 : decide (x7_2 < (l0_3.length : Int)) = false := decide_eq_false c10
       clear c10
       obtain rfl := Option.some.inj H
       have hcz17_0 : wr.cell? ⟨gb259, 0, none⟩ = some (.int .i64 a0_0) := (blk_cell BK259.out 0).trans rfl
       have hcz17_1 : wr.cell? ⟨gb259, 1, none⟩ = some (.int .i64 a0_1) := (blk_cell BK259.out 1).trans rfl
       have hcz17_2 : wr.cell? ⟨gb259, 2, none⟩ = some (.string a0_2) := (blk_cell BK259.out 2).trans rfl
       have hcz17_3 : wr.cell? ⟨gb259, 3, none⟩ = some (.slice A0_3 l0_3.length c0_3) := (blk_cell BK259.out 3).trans rfl
       have hfz17_0 := blk_frozen BK259.out 0
       have hfz17_1 := blk_frozen BK259.out 1
       have hfz17_2 := blk_frozen BK259.out 2
       have hfz17_3 := blk_frozen BK259.out 3
       go_wp2
       go_ret
       exact ⟨by first | rfl | (simp [errW_none, errW_some] <;> rfl) | (simp [*, errW_none, errW_some] <;> rfl), by repeat (first | (with_reducible first | exact HB.out | apply below_alloc | apply pw_below_drewN | apply below_drew1 | refine below_set ?_ GE259.out) | exact HB.out)⟩
def jobshellref05_Small.f (k : Nat) (a0_0 : Int) (a0_1 : Int) (a0_2 : ByteArray) (l0_3 : List (S26)) (a1 : Int) : Option (Bool) := (jobshellref05_small.f k a0_0 a0_1 a0_2 l0_3 a1 40).bind fun t263 => (some (decide (t263 ≥ 0)))
set_option maxHeartbeats 8000000 in
set_option maxRecDepth 100000 in
theorem jobshellref05_Small.calls (k : Nat) (a0_0 : Int) (a0_1 : Int) (a0_2 : ByteArray) (A0_3 : Option Addr) (c0_3 : Nat) (l0_3 : List (S26)) (a1 : Int) (r : Bool) (w : World) (hr0_3 : Kd.C k26 w A0_3 l0_3.length l0_3) (hc0_3 : l0_3.length ≤ c0_3) (h : jobshellref05_Small.f k a0_0 a0_1 a0_2 l0_3 a1 = some r) :
 Calls Tryd.prog 21 #[.agg #[.int .i64 a0_0, .int .i64 a0_1, .string a0_2, .slice A0_3 l0_3.length c0_3], .int .i64 a1] w fun e w' => e = .returned (.bool r) ∧ Below w.heap.size w w' := by
 have hu26 := Tryd.underlying26
 have HR0_3 := Aside0.mk hr0_3
 have HC0_3 := Aside0.mk hc0_3
 clear hr0_3 hc0_3
 have HB := Aside0.mk (Below.refl w.heap.size w)
 have H : ((jobshellref05_small.f k a0_0 a0_1 a0_2 l0_3 a1 40).bind fun t263 => (some (decide (t263 ≥ 0)))) = some r := h
 clear h
 replace H := Option.bind_eq_some_iff.mp H
 obtain ⟨t263, A30, H⟩ := H
 replace H : (some (decide (t263 ≥ 0))) = some r := H
 have A3 := Aside0.mk A30
 clear A30
 obtain rfl := Option.some.inj H
 go_enter Tryd.func21, Tryd.ntmps21
 go_wp2_with (first | ((with_reducible refine gate_dst (N := 2) rfl ?_); refine box_event ?hg (N := 2) ?hd (cs := #[.int .i64 a0_0, .int .i64 a0_1, .string a0_2, .slice A0_3 l0_3.length c0_3]) (t := 26) ?hr ?_; (case hd => rfl); (case hg => rfl); (case hr => first | (go_simp; done) | (go_simp; rfl)); intro gb262 hg w4 hbox hb; have n0_ := Aside0.mk (below_step (by repeat (first | (with_reducible first | exact HB.out | apply below_alloc | apply pw_below_drewN | apply below_drew1) | exact HB.out)) hb); have n1_ := Aside0.mk (hbox); have n2_ := Aside0.mk ((by rw [hg]; exact (below_size (by repeat (first | (with_reducible first | exact HB.out | apply below_alloc | apply pw_below_drewN | apply below_drew1) | exact HB.out))) : w.heap.size ≤ gb262)); have n3_ := Aside0.mk ((by rw [hg]; exact (below_size (by repeat (first | (with_reducible first | exact HB.out | apply below_alloc | apply pw_below_drewN | apply below_drew1) | exact HB.out))) : w.heap.size ≤ gb262)); clear HB; have HB := n0_; have BK262 := n1_; have GW262 := n2_; have GE262 := n3_; clear n0_ n1_ n2_ n3_; clear hb hbox hg; have hcz5_0 : w4.cell? ⟨gb262, 0, none⟩ = some (.int .i64 a0_0) := (blk_cell BK262.out 0).trans rfl; have hcz5_1 : w4.cell? ⟨gb262, 1, none⟩ = some (.int .i64 a0_1) := (blk_cell BK262.out 1).trans rfl; have hcz5_2 : w4.cell? ⟨gb262, 2, none⟩ = some (.string a0_2) := (blk_cell BK262.out 2).trans rfl; have hcz5_3 : w4.cell? ⟨gb262, 3, none⟩ = some (.slice A0_3 l0_3.length c0_3) := (blk_cell BK262.out 3).trans rfl; have hfz5_0 := blk_frozen BK262.out 0; have hfz5_1 := blk_frozen BK262.out 1; have hfz5_2 := blk_frozen BK262.out 2; have hfz5_3 := blk_frozen BK262.out 3) | ((with_reducible refine gate_callee (f := 50) rfl ?_); refine goesL_ (some 7) rfl rfl Tryd.func50 (by kernel_rfl) rfl #[.agg #[.int .i64 a0_0, .int .i64 a0_1, .string a0_2, .slice A0_3 l0_3.length c0_3], .int .i64 a1, .int .i64 40] rfl (by (try simp only [List.map_toArray, List.map_cons, List.map_nil]); first | done | rfl | (simp only [List.length_drop, List.length_take]; rfl)) ?_; (with_reducible refine (jobshellref05_small.calls k a0_0 a0_1 a0_2 _ _ l0_3 a1 40 t263 _ ?side1 ?side2 A3.out).mono ?_); (case side1 => repeat (first | exact (Kd.C_below HR0_3.out HB.out) | (with_reducible refine Kd.C_alloc ?_ _) | (with_reducible refine Kd.C_drewN ?_ _) | (with_reducible refine Kd.C_drew ?_))); (case side2 => exact HC0_3.out); rintro e w6 ⟨rfl, hb⟩; refine ⟨_, rfl, ?_⟩; have n0_ := Aside0.mk (blk_below (g := gb262) (o := .cells #[.int .i64 a0_0, .int .i64 a0_1, .string a0_2, .slice A0_3 l0_3.length c0_3] 26 (0, 0)) (by (with_reducible repeat (first | refine blk_drewN ?_ _ | refine blk_drew ?_ | refine blk_alloc ?_ _)); exact BK262.out) hb); have n1_ := Aside0.mk (below_step (by repeat (first | (with_reducible first | exact HB.out | apply below_alloc | apply pw_below_drewN | apply below_drew1 | refine below_set ?_ GE262.out) | exact HB.out)) hb); clear BK262; clear HB; have BK262 := n0_; have HB := n1_; clear n0_ n1_; (try clear hb); (try clear hb2); (try clear hk); (try clear hi)))
 go_ret
 exact ⟨by first | rfl | (simp [errW_none, errW_some] <;> rfl) | (simp [*, errW_none, errW_some] <;> rfl), by repeat (first | (with_reducible first | exact HB.out | apply below_alloc | apply pw_below_drewN | apply below_drew1 | refine below_set ?_ GE262.out) | exact HB.out)⟩
end Go.Proofs.YtglmdfddgmkmaaaDoor.Q
end
section
namespace Go.Proofs.YtglmdfddgmkmaaaDoor.Q
open Go.RowKit Go.Proofs.YtglmdfddgmkmaaaDoorW.PrintWords Go.Proofs.YtglmdfddgmkmaaaDoorW.PrintLast Go.Proofs.YtglmdfddgmkmaaaDoorW.PrintMore
attribute [local go_sem] max2_int min2_int max_two min_two max_three min_three max_four min_four
set_option linter.unusedVariables false
set_option linter.unusedSimpArgs false
def jobshelllaw05_ArithBack.f (k : Nat) (a0_0 : Int) (a0_1 : Int) (a0_2 : ByteArray) (l0_3 : List (S26)) : Option (Bool) := (jobshellref05_Small.f k a0_0 a0_1 a0_2 l0_3 60).bind fun t273 => (if t273 = true then ((arith_Show.f k a0_0 a0_1 a0_2 l0_3).bind fun bt275 => (if bt275.2 = 0 then ((arith_Parse.f k bt275.1).bind fun bt277 => (if bt277.2.2.2.2.2 = 0 then (if bt277.2.2.2.2.1 = 0 then ((jobshellref05_Same.f k bt277.1 bt277.2.1 bt277.2.2.1 bt277.2.2.2.1 a0_0 a0_1 a0_2 l0_3).bind fun t286 => (if t286 = true then ((jobshelllaw05_awake.f k).bind fun t287 => (some t287)) else (some false))) else (some false)) else (some false))) else (if bt275.1.toList = ([] : List UInt8) then ((jobshelllaw05_awake.f k).bind fun t288 => (some t288)) else (some false)))) else ((jobshelllaw05_awake.f k).bind fun t274 => (some t274)))
set_option maxHeartbeats 8000000 in
set_option maxRecDepth 100000 in
theorem jobshelllaw05_ArithBack.calls (k : Nat) (a0_0 : Int) (a0_1 : Int) (a0_2 : ByteArray) (A0_3 : Option Addr) (c0_3 : Nat) (l0_3 : List (S26)) (r : Bool) (w : World) (hr0_3 : Kd.C k26 w A0_3 l0_3.length l0_3) (hc0_3 : l0_3.length ≤ c0_3) (h : jobshelllaw05_ArithBack.f k a0_0 a0_1 a0_2 l0_3 = some r) (hT : Laid w := by first | assumption | exact HT.out | exact Laid.below HT.out (by repeat (first | (with_reducible first | exact HB.out | apply below_alloc | apply pw_below_drewN | apply below_drew1 | refine below_set ?_ (Aside0.out (by assumption))) | exact HB.out))) :
 Calls Tryd.prog 7 #[.agg #[.int .i64 a0_0, .int .i64 a0_1, .string a0_2, .slice A0_3 l0_3.length c0_3]] w fun e w' => e = .returned (.bool r) ∧ Below w.heap.size w w' := by
 have hu26 := Tryd.underlying26
 have HR0_3 := Aside0.mk hr0_3
 have HC0_3 := Aside0.mk hc0_3
 clear hr0_3 hc0_3
 have HB := Aside0.mk (Below.refl w.heap.size w)
 have HT : Aside0 (Laid w) := Aside0.mk hT
 clear hT
 have H : ((jobshellref05_Small.f k a0_0 a0_1 a0_2 l0_3 60).bind fun t273 => (if t273 = true then ((arith_Show.f k a0_0 a0_1 a0_2 l0_3).bind fun bt275 => (if bt275.2 = 0 then ((arith_Parse.f k bt275.1).bind fun bt277 => (if bt277.2.2.2.2.2 = 0 then (if bt277.2.2.2.2.1 = 0 then ((jobshellref05_Same.f k bt277.1 bt277.2.1 bt277.2.2.1 bt277.2.2.2.1 a0_0 a0_1 a0_2 l0_3).bind fun t286 => (if t286 = true then ((jobshelllaw05_awake.f k).bind fun t287 => (some t287)) else (some false))) else (some false)) else (some false))) else (if bt275.1.toList = ([] : List UInt8) then ((jobshelllaw05_awake.f k).bind fun t288 => (some t288)) else (some false)))) else ((jobshelllaw05_awake.f k).bind fun t274 => (some t274)))) = some r := h
 clear h
 replace H := Option.bind_eq_some_iff.mp H
 obtain ⟨t273, A20, H⟩ := H
 replace H : (if t273 = true then ((arith_Show.f k a0_0 a0_1 a0_2 l0_3).bind fun bt275 => (if bt275.2 = 0 then ((arith_Parse.f k bt275.1).bind fun bt277 => (if bt277.2.2.2.2.2 = 0 then (if bt277.2.2.2.2.1 = 0 then ((jobshellref05_Same.f k bt277.1 bt277.2.1 bt277.2.2.1 bt277.2.2.2.1 a0_0 a0_1 a0_2 l0_3).bind fun t286 => (if t286 = true then ((jobshelllaw05_awake.f k).bind fun t287 => (some t287)) else (some false))) else (some false)) else (some false))) else (if bt275.1.toList = ([] : List UInt8) then ((jobshelllaw05_awake.f k).bind fun t288 => (some t288)) else (some false)))) else ((jobshelllaw05_awake.f k).bind fun t274 => (some t274))) = some r := H
 have A2 := Aside0.mk A20
 clear A20
 by_cases c3 : t273 = true
 ·subst c3
  have H1 : ((arith_Show.f k a0_0 a0_1 a0_2 l0_3).bind fun bt275 => (if bt275.2 = 0 then ((arith_Parse.f k bt275.1).bind fun bt277 => (if bt277.2.2.2.2.2 = 0 then (if bt277.2.2.2.2.1 = 0 then ((jobshellref05_Same.f k bt277.1 bt277.2.1 bt277.2.2.1 bt277.2.2.2.1 a0_0 a0_1 a0_2 l0_3).bind fun t286 => (if t286 = true then ((jobshelllaw05_awake.f k).bind fun t287 => (some t287)) else (some false))) else (some false)) else (some false))) else (if bt275.1.toList = ([] : List UInt8) then ((jobshelllaw05_awake.f k).bind fun t288 => (some t288)) else (some false)))) = some r := by rw [if_pos rfl] at H; exact H
  clear H
  have H := H1
  clear H1
  replace H := Option.bind_eq_some_iff.mp H
  obtain ⟨⟨t275, t276⟩, A40, H⟩ := H
  replace H : (if t276 = 0 then ((arith_Parse.f k t275).bind fun bt277 => (if bt277.2.2.2.2.2 = 0 then (if bt277.2.2.2.2.1 = 0 then ((jobshellref05_Same.f k bt277.1 bt277.2.1 bt277.2.2.1 bt277.2.2.2.1 a0_0 a0_1 a0_2 l0_3).bind fun t286 => (if t286 = true then ((jobshelllaw05_awake.f k).bind fun t287 => (some t287)) else (some false))) else (some false)) else (some false))) else (if t275.toList = ([] : List UInt8) then ((jobshelllaw05_awake.f k).bind fun t288 => (some t288)) else (some false))) = some r := H
  have A4 := Aside0.mk A40
  clear A40
  by_cases c5 : t276 = 0
  ·rw [if_pos c5] at H
   have c5b0 : (t276 == 0) = true := beq_iff_eq.mpr c5
   have c5b1 : (t276 != 0) = false := bne_eq_false_iff_eq.mpr c5
   clear c5
   replace H := Option.bind_eq_some_iff.mp H
   obtain ⟨⟨t277, t278, t279, t280, t283, t284⟩, A60, H⟩ := H
   replace H : (if t284 = 0 then (if t283 = 0 then ((jobshellref05_Same.f k t277 t278 t279 t280 a0_0 a0_1 a0_2 l0_3).bind fun t286 => (if t286 = true then ((jobshelllaw05_awake.f k).bind fun t287 => (some t287)) else (some false))) else (some false)) else (some false)) = some r := H
   have A6 := Aside0.mk A60
   clear A60
   by_cases c7 : t284 = 0
   ·rw [if_pos c7] at H
    have c7b0 : (t284 == 0) = true := beq_iff_eq.mpr c7
    have c7b1 : (t284 != 0) = false := bne_eq_false_iff_eq.mpr c7
    clear c7
    by_cases c8 : t283 = 0
    ·rw [if_pos c8] at H
     have c8b0 : (t283 == 0) = true := beq_iff_eq.mpr c8
     have c8b1 : (t283 != 0) = false := bne_eq_false_iff_eq.mpr c8
     clear c8
     replace H := Option.bind_eq_some_iff.mp H
     obtain ⟨t286, A90, H⟩ := H
     replace H : (if t286 = true then ((jobshelllaw05_awake.f k).bind fun t287 => (some t287)) else (some false)) = some r := H
     have A9 := Aside0.mk A90
     clear A90
     by_cases c10 : t286 = true
     ·subst c10
      have H1 : ((jobshelllaw05_awake.f k).bind fun t287 => (some t287)) = some r := by rw [if_pos rfl] at H; exact H
      clear H
      have H := H1
      clear H1
      replace H := Option.bind_eq_some_iff.mp H
      obtain ⟨t287, A110, H⟩ := H
      replace H : (some t287) = some r := H
      have A11 := Aside0.mk A110
      clear A110
      obtain rfl := Option.some.inj H
      go_enter Tryd.func7, Tryd.ntmps7
      go_wp2_with (first | ((with_reducible refine gate_dst (N := 1) rfl ?_); refine box_event ?hg (N := 1) ?hd (cs := #[.int .i64 a0_0, .int .i64 a0_1, .string a0_2, .slice A0_3 l0_3.length c0_3]) (t := 26) ?hr ?_; (case hd => rfl); (case hg => rfl); (case hr => first | (go_simp; done) | (go_simp; rfl)); intro gb272 hg w12 hbox hb; have n0_ := Aside0.mk (below_step (by repeat (first | (with_reducible first | exact HB.out | apply below_alloc | apply pw_below_drewN | apply below_drew1) | exact HB.out)) hb); have n1_ := Aside0.mk (hbox); have n2_ := Aside0.mk ((by rw [hg]; exact (below_size (by repeat (first | (with_reducible first | exact HB.out | apply below_alloc | apply pw_below_drewN | apply below_drew1) | exact HB.out))) : w.heap.size ≤ gb272)); have n3_ := Aside0.mk ((by rw [hg]; exact (below_size (by repeat (first | (with_reducible first | exact HB.out | apply below_alloc | apply pw_below_drewN | apply below_drew1) | exact HB.out))) : w.heap.size ≤ gb272)); clear HB; have HB := n0_; have BK272 := n1_; have GW272 := n2_; have GE272 := n3_; clear n0_ n1_ n2_ n3_; clear hb hbox hg; have hcz13_0 : w12.cell? ⟨gb272, 0, none⟩ = some (.int .i64 a0_0) := (blk_cell BK272.out 0).trans rfl; have hcz13_1 : w12.cell? ⟨gb272, 1, none⟩ = some (.int .i64 a0_1) := (blk_cell BK272.out 1).trans rfl; have hcz13_2 : w12.cell? ⟨gb272, 2, none⟩ = some (.string a0_2) := (blk_cell BK272.out 2).trans rfl; have hcz13_3 : w12.cell? ⟨gb272, 3, none⟩ = some (.slice A0_3 l0_3.length c0_3) := (blk_cell BK272.out 3).trans rfl; have hfz13_0 := blk_frozen BK272.out 0; have hfz13_1 := blk_frozen BK272.out 1; have hfz13_2 := blk_frozen BK272.out 2; have hfz13_3 := blk_frozen BK272.out 3) | ((with_reducible refine gate_callee (f := 21) rfl ?_); refine goesL_ (some 9) rfl rfl Tryd.func21 (by kernel_rfl) rfl #[.agg #[.int .i64 a0_0, .int .i64 a0_1, .string a0_2, .slice A0_3 l0_3.length c0_3], .int .i64 60] rfl (by (try simp only [List.map_toArray, List.map_cons, List.map_nil]); first | done | rfl | (simp only [List.length_drop, List.length_take]; rfl)) ?_; (with_reducible refine (jobshellref05_Small.calls k a0_0 a0_1 a0_2 _ _ l0_3 60 true _ ?side1 ?side2 A2.out).mono ?_); (case side1 => repeat (first | exact (Kd.C_below HR0_3.out HB.out) | (with_reducible refine Kd.C_alloc ?_ _) | (with_reducible refine Kd.C_drewN ?_ _) | (with_reducible refine Kd.C_drew ?_))); (case side2 => exact HC0_3.out); rintro e w14 ⟨rfl, hb⟩; refine ⟨_, rfl, ?_⟩; have n0_ := Aside0.mk (blk_below (g := gb272) (o := .cells #[.int .i64 a0_0, .int .i64 a0_1, .string a0_2, .slice A0_3 l0_3.length c0_3] 26 (0, 0)) (by (with_reducible repeat (first | refine blk_drewN ?_ _ | refine blk_drew ?_ | refine blk_alloc ?_ _)); exact BK272.out) hb); have n1_ := Aside0.mk (below_step (by repeat (first | (with_reducible first | exact HB.out | apply below_alloc | apply pw_below_drewN | apply below_drew1 | refine below_set ?_ GE272.out) | exact HB.out)) hb); clear BK272; clear HB; have BK272 := n0_; have HB := n1_; clear n0_ n1_; (try clear hb); (try clear hb2); (try clear hk); (try clear hi); have hcz15_0 : w14.cell? ⟨gb272, 0, none⟩ = some (.int .i64 a0_0) := (blk_cell BK272.out 0).trans rfl; have hcz15_1 : w14.cell? ⟨gb272, 1, none⟩ = some (.int .i64 a0_1) := (blk_cell BK272.out 1).trans rfl; have hcz15_2 : w14.cell? ⟨gb272, 2, none⟩ = some (.string a0_2) := (blk_cell BK272.out 2).trans rfl; have hcz15_3 : w14.cell? ⟨gb272, 3, none⟩ = some (.slice A0_3 l0_3.length c0_3) := (blk_cell BK272.out 3).trans rfl; have hfz15_0 := blk_frozen BK272.out 0; have hfz15_1 := blk_frozen BK272.out 1; have hfz15_2 := blk_frozen BK272.out 2; have hfz15_3 := blk_frozen BK272.out 3) | ((with_reducible refine gate_callee (f := 22) rfl ?_); refine goesL_ (some 14) rfl rfl Tryd.func22 (by kernel_rfl) rfl #[.agg #[.int .i64 a0_0, .int .i64 a0_1, .string a0_2, .slice A0_3 l0_3.length c0_3]] rfl (by (try simp only [List.map_toArray, List.map_cons, List.map_nil]); first | done | rfl | (simp only [List.length_drop, List.length_take]; rfl)) ?_; (with_reducible refine (arith_Show.calls k a0_0 a0_1 a0_2 _ _ l0_3 t275 t276 _ ?side1 ?side2 A4.out).mono ?_); (case side1 => repeat (first | exact (Kd.C_below HR0_3.out HB.out) | (with_reducible refine Kd.C_alloc ?_ _) | (with_reducible refine Kd.C_drewN ?_ _) | (with_reducible refine Kd.C_drew ?_))); (case side2 => exact HC0_3.out); rintro e w16 ⟨rfl, hb⟩; refine ⟨_, rfl, ?_⟩; have n0_ := Aside0.mk (blk_below (g := gb272) (o := .cells #[.int .i64 a0_0, .int .i64 a0_1, .string a0_2, .slice A0_3 l0_3.length c0_3] 26 (0, 0)) (by (with_reducible repeat (first | refine blk_drewN ?_ _ | refine blk_drew ?_ | refine blk_alloc ?_ _)); exact BK272.out) hb); have n1_ := Aside0.mk (below_step (by repeat (first | (with_reducible first | exact HB.out | apply below_alloc | apply pw_below_drewN | apply below_drew1 | refine below_set ?_ GE272.out) | exact HB.out)) hb); clear BK272; clear HB; have BK272 := n0_; have HB := n1_; clear n0_ n1_; (try clear hb); (try clear hb2); (try clear hk); (try clear hi)) | ((with_reducible refine gate_callee (f := 18) rfl ?_); refine goesL_ (some 26) rfl rfl Tryd.func18 (by kernel_rfl) rfl #[.string t275] rfl (by (try simp only [List.map_toArray, List.map_cons, List.map_nil]); first | done | rfl | (simp only [List.length_drop, List.length_take]; rfl)) ?_; (with_reducible refine (arith_Parse.calls k t275 t277 t278 t279 t280 t283 t284 _ A6.out).mono ?_); rintro e w17 ⟨v281, rfl, ho0, hb⟩; refine ⟨_, rfl, ?_⟩; have n0_ := Aside0.mk (Kd.R_lower (Kd.R_newB ho0 (g := gb272) (o := .cells #[.int .i64 a0_0, .int .i64 a0_1, .string a0_2, .slice A0_3 l0_3.length c0_3] 26 (0, 0)) (by (with_reducible repeat (first | refine blk_drewN ?_ _ | refine blk_drew ?_ | refine blk_alloc ?_ _)); exact BK272.out)) (below_size (by repeat (first | (with_reducible first | exact HB.out | apply below_alloc | apply pw_below_drewN | apply below_drew1 | refine below_set ?_ GE272.out) | exact HB.out)))); have n1_ := Aside0.mk (blk_below (g := gb272) (o := .cells #[.int .i64 a0_0, .int .i64 a0_1, .string a0_2, .slice A0_3 l0_3.length c0_3] 26 (0, 0)) (by (with_reducible repeat (first | refine blk_drewN ?_ _ | refine blk_drew ?_ | refine blk_alloc ?_ _)); exact BK272.out) hb); have n2_ := Aside0.mk (below_step (by repeat (first | (with_reducible first | exact HB.out | apply below_alloc | apply pw_below_drewN | apply below_drew1 | refine below_set ?_ GE272.out) | exact HB.out)) hb); clear BK272; clear HB; have HO282 := n0_; have BK272 := n1_; have HB := n2_; clear n0_ n1_ n2_; (try clear hb); (try clear hb2); (try clear hk); (try clear hi); (try clear ho0)) | ((with_reducible refine gate_dst (N := 5) rfl ?_); refine box_event ?hg (N := 5) ?hd (cs := #[.int .i64 0, .int .i64 0, .string (⟨#[]⟩ : ByteArray), .slice none 0 0]) (t := 26) ?hr ?_; (case hd => rfl); (case hg => rfl); (case hr => first | (go_simp; done) | (go_simp; rfl)); intro gb285 hg w18 hbox hb; have n0_ := Aside0.mk (Kd.R_below (Kd.R_elderB (by (with_reducible repeat (first | apply Kd.R_alloc | apply Kd.R_drewN | apply Kd.R_drew)); exact HO282.out) gb285 (Nat.le_of_eq hg.symm)) hb); have n1_ := Aside0.mk (blk_below (g := gb272) (o := .cells #[.int .i64 a0_0, .int .i64 a0_1, .string a0_2, .slice A0_3 l0_3.length c0_3] 26 (0, 0)) (by (with_reducible repeat (first | refine blk_drewN ?_ _ | refine blk_drew ?_ | refine blk_alloc ?_ _)); exact BK272.out) hb); have n2_ := Aside0.mk (below_step (by repeat (first | (with_reducible first | exact HB.out | apply below_alloc | apply pw_below_drewN | apply below_drew1 | refine below_set ?_ GE272.out) | exact HB.out)) hb); have n3_ := Aside0.mk (hbox); have n4_ := Aside0.mk ((by rw [hg]; exact (below_size (by repeat (first | (with_reducible first | exact HB.out | apply below_alloc | apply pw_below_drewN | apply below_drew1 | refine below_set ?_ GE272.out) | exact HB.out))) : w.heap.size ≤ gb285)); have n5_ := Aside0.mk ((by rw [hg]; exact (below_size (by repeat (first | (with_reducible first | exact HB.out | apply below_alloc | apply pw_below_drewN | apply below_drew1 | refine below_set ?_ GE272.out) | exact HB.out))) : w.heap.size ≤ gb285)); have n6_ := Aside0.mk ((by rw [hg]; exact Nat.ne_of_lt (blk_lt (g := gb272) (o := .cells #[.int .i64 a0_0, .int .i64 a0_1, .string a0_2, .slice A0_3 l0_3.length c0_3] 26 (0, 0)) (by (with_reducible repeat (first | refine blk_drewN ?_ _ | refine blk_drew ?_ | refine blk_alloc ?_ _)); exact BK272.out)) : gb272 ≠ gb285)); have n7_ := Aside0.mk ((by rw [hg]; exact Nat.ne_of_gt (blk_lt (g := gb272) (o := .cells #[.int .i64 a0_0, .int .i64 a0_1, .string a0_2, .slice A0_3 l0_3.length c0_3] 26 (0, 0)) (by (with_reducible repeat (first | refine blk_drewN ?_ _ | refine blk_drew ?_ | refine blk_alloc ?_ _)); exact BK272.out)) : gb285 ≠ gb272)); clear HO282; clear BK272; clear HB; have HO282 := n0_; have BK272 := n1_; have HB := n2_; have BK285 := n3_; have GW285 := n4_; have GE285 := n5_; have NB272_285 := n6_; have NB285_272 := n7_; clear n0_ n1_ n2_ n3_ n4_ n5_ n6_ n7_; clear hb hbox hg; have hnb19 := NB285_272.out; have hnc19 := NB272_285.out; have hcz20_0 : w18.cell? ⟨gb285, 0, none⟩ = some (.int .i64 0) := (blk_cell BK285.out 0).trans rfl; have hcz20_1 : w18.cell? ⟨gb285, 1, none⟩ = some (.int .i64 0) := (blk_cell BK285.out 1).trans rfl; have hcz20_2 : w18.cell? ⟨gb285, 2, none⟩ = some (.string (⟨#[]⟩ : ByteArray)) := (blk_cell BK285.out 2).trans rfl; have hcz20_3 : w18.cell? ⟨gb285, 3, none⟩ = some (.slice none 0 0) := (blk_cell BK285.out 3).trans rfl; have hfz20_0 := blk_frozen BK285.out 0; have hfz20_1 := blk_frozen BK285.out 1; have hfz20_2 := blk_frozen BK285.out 2; have hfz20_3 := blk_frozen BK285.out 3; obtain ⟨Ao21, co21, eo21⟩ := Kd.R_slice HO282.out; subst eo21; have hcz22_0 : w18.cell? ⟨gb272, 0, none⟩ = some (.int .i64 a0_0) := (blk_cell BK272.out 0).trans rfl; have hcz22_1 : w18.cell? ⟨gb272, 1, none⟩ = some (.int .i64 a0_1) := (blk_cell BK272.out 1).trans rfl; have hcz22_2 : w18.cell? ⟨gb272, 2, none⟩ = some (.string a0_2) := (blk_cell BK272.out 2).trans rfl; have hcz22_3 : w18.cell? ⟨gb272, 3, none⟩ = some (.slice A0_3 l0_3.length c0_3) := (blk_cell BK272.out 3).trans rfl; have hfz22_0 := blk_frozen BK272.out 0; have hfz22_1 := blk_frozen BK272.out 1; have hfz22_2 := blk_frozen BK272.out 2; have hfz22_3 := blk_frozen BK272.out 3) | (go_at_call 20; (with_reducible refine (jobshellref05_Same.calls k t277 t278 t279 _ _ t280 a0_0 a0_1 a0_2 _ _ l0_3 true _ ?side1 ?side2 ?side3 ?side4 A9.out).mono ?_); (case side1 => refine (Kd.R_reads' (e := 26) (base := w.heap.size) (ok := fun k_ => ((True ∧ k_ ≠ gb272) ∧ k_ ≠ gb285)) (n := t280.length) (c := co21) ?_).2.2; exact (by (with_reducible repeat (first | apply Kd.R_alloc | apply Kd.R_drewN | apply Kd.R_drew)); exact (Kd.R_mono (Kd.R_far (p := ⟨gb285, 3, none⟩) (Kd.R_far (p := ⟨gb285, 2, none⟩) (Kd.R_far (p := ⟨gb285, 1, none⟩) (Kd.R_far (p := ⟨gb285, 0, none⟩) (Kd.R_mono HO282.out (fun k_ hk => (⟨hk, hk.2⟩ : _ ∧ k_ ≠ gb285))) (fun _ hk => hk.2) (.int .i64 t277)) (fun _ hk => hk.2) (.int .i64 t278)) (fun _ hk => hk.2) (.string t279)) (fun _ hk => hk.2) (.slice Ao21 t280.length co21)) (fun _ h_ => h_.1)))); (case side2 => exact (Kd.R_reads' HO282.out).2.1); (case side3 => exact Kd.C_below HR0_3.out (by repeat (first | (with_reducible first | exact HB.out | apply below_alloc | apply pw_below_drewN | apply below_drew1 | refine below_set ?_ GE272.out | refine below_set ?_ GE285.out) | exact HB.out))); (case side4 => exact HC0_3.out); rintro e w23 ⟨rfl, hb⟩; have n0_ := Aside0.mk (Kd.R_below (by (with_reducible repeat (first | apply Kd.R_alloc | apply Kd.R_drewN | apply Kd.R_drew)); exact (Kd.R_mono (Kd.R_far (p := ⟨gb285, 3, none⟩) (Kd.R_far (p := ⟨gb285, 2, none⟩) (Kd.R_far (p := ⟨gb285, 1, none⟩) (Kd.R_far (p := ⟨gb285, 0, none⟩) (Kd.R_mono HO282.out (fun k_ hk => (⟨hk, hk.2⟩ : _ ∧ k_ ≠ gb285))) (fun _ hk => hk.2) (.int .i64 t277)) (fun _ hk => hk.2) (.int .i64 t278)) (fun _ hk => hk.2) (.string t279)) (fun _ hk => hk.2) (.slice Ao21 t280.length co21)) (fun _ h_ => h_.1))) hb); have n1_ := Aside0.mk (blk_below (g := gb272) (o := .cells #[.int .i64 a0_0, .int .i64 a0_1, .string a0_2, .slice A0_3 l0_3.length c0_3] 26 (0, 0)) (by (with_reducible repeat (first | refine blk_drewN ?_ _ | refine blk_drew ?_ | refine blk_alloc ?_ _)); refine blk_far ?_ NB272_285.out _; (with_reducible repeat (first | refine blk_drewN ?_ _ | refine blk_drew ?_ | refine blk_alloc ?_ _)); refine blk_far ?_ NB272_285.out _; (with_reducible repeat (first | refine blk_drewN ?_ _ | refine blk_drew ?_ | refine blk_alloc ?_ _)); refine blk_far ?_ NB272_285.out _; (with_reducible repeat (first | refine blk_drewN ?_ _ | refine blk_drew ?_ | refine blk_alloc ?_ _)); refine blk_far ?_ NB272_285.out _; (with_reducible repeat (first | refine blk_drewN ?_ _ | refine blk_drew ?_ | refine blk_alloc ?_ _)); exact BK272.out) hb); have n2_ := Aside0.mk (blk_below (g := gb285) (o := .cells #[.int .i64 t277, .int .i64 t278, .string t279, .slice Ao21 t280.length co21] 26 (0, 0)) (by (with_reducible repeat (first | refine blk_drewN ?_ _ | refine blk_drew ?_ | refine blk_alloc ?_ _)); refine blk_put (cs := #[.int .i64 t277, .int .i64 t278, .string t279, .slice none 0 0]) ?_ 3 _ rfl; (with_reducible repeat (first | refine blk_drewN ?_ _ | refine blk_drew ?_ | refine blk_alloc ?_ _)); refine blk_put (cs := #[.int .i64 t277, .int .i64 t278, .string (⟨#[]⟩ : ByteArray), .slice none 0 0]) ?_ 2 _ rfl; (with_reducible repeat (first | refine blk_drewN ?_ _ | refine blk_drew ?_ | refine blk_alloc ?_ _)); refine blk_put (cs := #[.int .i64 t277, .int .i64 0, .string (⟨#[]⟩ : ByteArray), .slice none 0 0]) ?_ 1 _ rfl; (with_reducible repeat (first | refine blk_drewN ?_ _ | refine blk_drew ?_ | refine blk_alloc ?_ _)); refine blk_put (cs := #[.int .i64 0, .int .i64 0, .string (⟨#[]⟩ : ByteArray), .slice none 0 0]) ?_ 0 _ rfl; (with_reducible repeat (first | refine blk_drewN ?_ _ | refine blk_drew ?_ | refine blk_alloc ?_ _)); exact BK285.out) hb); have n3_ := Aside0.mk (below_step (by repeat (first | (with_reducible first | exact HB.out | apply below_alloc | apply pw_below_drewN | apply below_drew1 | refine below_set ?_ GE272.out | refine below_set ?_ GE285.out) | exact HB.out)) hb); clear HO282; clear BK272; clear BK285; clear HB; have HO282 := n0_; have BK272 := n1_; have BK285 := n2_; have HB := n3_; clear n0_ n1_ n2_ n3_; (try clear hb); (try clear hb2); (try clear hk); (try clear hi)) | (go_at_call 17; (with_reducible refine (jobshelllaw05_awake.calls k  t287 _ A11.out).mono ?_); rintro e w24 ⟨rfl, hb⟩; have n0_ := Aside0.mk (Kd.R_below (by (with_reducible repeat (first | apply Kd.R_alloc | apply Kd.R_drewN | apply Kd.R_drew)); exact HO282.out) hb); have n1_ := Aside0.mk (blk_below (g := gb272) (o := .cells #[.int .i64 a0_0, .int .i64 a0_1, .string a0_2, .slice A0_3 l0_3.length c0_3] 26 (0, 0)) (by (with_reducible repeat (first | refine blk_drewN ?_ _ | refine blk_drew ?_ | refine blk_alloc ?_ _)); exact BK272.out) hb); have n2_ := Aside0.mk (blk_below (g := gb285) (o := .cells #[.int .i64 t277, .int .i64 t278, .string t279, .slice Ao21 t280.length co21] 26 (0, 0)) (by (with_reducible repeat (first | refine blk_drewN ?_ _ | refine blk_drew ?_ | refine blk_alloc ?_ _)); exact BK285.out) hb); have n3_ := Aside0.mk (below_step (by repeat (first | (with_reducible first | exact HB.out | apply below_alloc | apply pw_below_drewN | apply below_drew1 | refine below_set ?_ GE272.out | refine below_set ?_ GE285.out) | exact HB.out)) hb); clear HO282; clear BK272; clear BK285; clear HB; have HO282 := n0_; have BK272 := n1_; have BK285 := n2_; have HB := n3_; clear n0_ n1_ n2_ n3_; (try clear hb); (try clear hb2); (try clear hk); (try clear hi)))
      go_ret
      exact ⟨by first | rfl | (simp [errW_none, errW_some] <;> rfl) | (simp [*, errW_none, errW_some] <;> rfl), by repeat (first | (with_reducible first | exact HB.out | apply below_alloc | apply pw_below_drewN | apply below_drew1 | refine below_set ?_ GE272.out | refine below_set ?_ GE285.out) | exact HB.out)⟩
     ·replace c10 := Bool.eq_false_iff.mpr c10
      subst c10
      have H1 : (some false) = some r := by rw [if_neg (show ¬ (false = true) by decide)] at H; exact H
      clear H
      have H := H1
      clear H1
      obtain rfl := Option.some.inj H
      go_enter Tryd.func7, Tryd.ntmps7
      go_wp2_with (first | ((with_reducible refine gate_dst (N := 1) rfl ?_); refine box_event ?hg (N := 1) ?hd (cs := #[.int .i64 a0_0, .int .i64 a0_1, .string a0_2, .slice A0_3 l0_3.length c0_3]) (t := 26) ?hr ?_; (case hd => rfl); (case hg => rfl); (case hr => first | (go_simp; done) | (go_simp; rfl)); intro gb272 hg w25 hbox hb; have n0_ := Aside0.mk (below_step (by repeat (first | (with_reducible first | exact HB.out | apply below_alloc | apply pw_below_drewN | apply below_drew1) | exact HB.out)) hb); have n1_ := Aside0.mk (hbox); have n2_ := Aside0.mk ((by rw [hg]; exact (below_size (by repeat (first | (with_reducible first | exact HB.out | apply below_alloc | apply pw_below_drewN | apply below_drew1) | exact HB.out))) : w.heap.size ≤ gb272)); have n3_ := Aside0.mk ((by rw [hg]; exact (below_size (by repeat (first | (with_reducible first | exact HB.out | apply below_alloc | apply pw_below_drewN | apply below_drew1) | exact HB.out))) : w.heap.size ≤ gb272)); clear HB; have HB := n0_; have BK272 := n1_; have GW272 := n2_; have GE272 := n3_; clear n0_ n1_ n2_ n3_; clear hb hbox hg; have hcz26_0 : w25.cell? ⟨gb272, 0, none⟩ = some (.int .i64 a0_0) := (blk_cell BK272.out 0).trans rfl; have hcz26_1 : w25.cell? ⟨gb272, 1, none⟩ = some (.int .i64 a0_1) := (blk_cell BK272.out 1).trans rfl; have hcz26_2 : w25.cell? ⟨gb272, 2, none⟩ = some (.string a0_2) := (blk_cell BK272.out 2).trans rfl; have hcz26_3 : w25.cell? ⟨gb272, 3, none⟩ = some (.slice A0_3 l0_3.length c0_3) := (blk_cell BK272.out 3).trans rfl; have hfz26_0 := blk_frozen BK272.out 0; have hfz26_1 := blk_frozen BK272.out 1; have hfz26_2 := blk_frozen BK272.out 2; have hfz26_3 := blk_frozen BK272.out 3) | ((with_reducible refine gate_callee (f := 21) rfl ?_); refine goesL_ (some 9) rfl rfl Tryd.func21 (by kernel_rfl) rfl #[.agg #[.int .i64 a0_0, .int .i64 a0_1, .string a0_2, .slice A0_3 l0_3.length c0_3], .int .i64 60] rfl (by (try simp only [List.map_toArray, List.map_cons, List.map_nil]); first | done | rfl | (simp only [List.length_drop, List.length_take]; rfl)) ?_; (with_reducible refine (jobshellref05_Small.calls k a0_0 a0_1 a0_2 _ _ l0_3 60 true _ ?side1 ?side2 A2.out).mono ?_); (case side1 => repeat (first | exact (Kd.C_below HR0_3.out HB.out) | (with_reducible refine Kd.C_alloc ?_ _) | (with_reducible refine Kd.C_drewN ?_ _) | (with_reducible refine Kd.C_drew ?_))); (case side2 => exact HC0_3.out); rintro e w27 ⟨rfl, hb⟩; refine ⟨_, rfl, ?_⟩; have n0_ := Aside0.mk (blk_below (g := gb272) (o := .cells #[.int .i64 a0_0, .int .i64 a0_1, .string a0_2, .slice A0_3 l0_3.length c0_3] 26 (0, 0)) (by (with_reducible repeat (first | refine blk_drewN ?_ _ | refine blk_drew ?_ | refine blk_alloc ?_ _)); exact BK272.out) hb); have n1_ := Aside0.mk (below_step (by repeat (first | (with_reducible first | exact HB.out | apply below_alloc | apply pw_below_drewN | apply below_drew1 | refine below_set ?_ GE272.out) | exact HB.out)) hb); clear BK272; clear HB; have BK272 := n0_; have HB := n1_; clear n0_ n1_; (try clear hb); (try clear hb2); (try clear hk); (try clear hi); have hcz28_0 : w27.cell? ⟨gb272, 0, none⟩ = some (.int .i64 a0_0) := (blk_cell BK272.out 0).trans rfl; have hcz28_1 : w27.cell? ⟨gb272, 1, none⟩ = some (.int .i64 a0_1) := (blk_cell BK272.out 1).trans rfl; have hcz28_2 : w27.cell? ⟨gb272, 2, none⟩ = some (.string a0_2) := (blk_cell BK272.out 2).trans rfl; have hcz28_3 : w27.cell? ⟨gb272, 3, none⟩ = some (.slice A0_3 l0_3.length c0_3) := (blk_cell BK272.out 3).trans rfl; have hfz28_0 := blk_frozen BK272.out 0; have hfz28_1 := blk_frozen BK272.out 1; have hfz28_2 := blk_frozen BK272.out 2; have hfz28_3 := blk_frozen BK272.out 3) | ((with_reducible refine gate_callee (f := 22) rfl ?_); refine goesL_ (some 14) rfl rfl Tryd.func22 (by kernel_rfl) rfl #[.agg #[.int .i64 a0_0, .int .i64 a0_1, .string a0_2, .slice A0_3 l0_3.length c0_3]] rfl (by (try simp only [List.map_toArray, List.map_cons, List.map_nil]); first | done | rfl | (simp only [List.length_drop, List.length_take]; rfl)) ?_; (with_reducible refine (arith_Show.calls k a0_0 a0_1 a0_2 _ _ l0_3 t275 t276 _ ?side1 ?side2 A4.out).mono ?_); (case side1 => repeat (first | exact (Kd.C_below HR0_3.out HB.out) | (with_reducible refine Kd.C_alloc ?_ _) | (with_reducible refine Kd.C_drewN ?_ _) | (with_reducible refine Kd.C_drew ?_))); (case side2 => exact HC0_3.out); rintro e w29 ⟨rfl, hb⟩; refine ⟨_, rfl, ?_⟩; have n0_ := Aside0.mk (blk_below (g := gb272) (o := .cells #[.int .i64 a0_0, .int .i64 a0_1, .string a0_2, .slice A0_3 l0_3.length c0_3] 26 (0, 0)) (by (with_reducible repeat (first | refine blk_drewN ?_ _ | refine blk_drew ?_ | refine blk_alloc ?_ _)); exact BK272.out) hb); have n1_ := Aside0.mk (below_step (by repeat (first | (with_reducible first | exact HB.out | apply below_alloc | apply pw_below_drewN | apply below_drew1 | refine below_set ?_ GE272.out) | exact HB.out)) hb); clear BK272; clear HB; have BK272 := n0_; have HB := n1_; clear n0_ n1_; (try clear hb); (try clear hb2); (try clear hk); (try clear hi)) | ((with_reducible refine gate_callee (f := 18) rfl ?_); refine goesL_ (some 26) rfl rfl Tryd.func18 (by kernel_rfl) rfl #[.string t275] rfl (by (try simp only [List.map_toArray, List.map_cons, List.map_nil]); first | done | rfl | (simp only [List.length_drop, List.length_take]; rfl)) ?_; (with_reducible refine (arith_Parse.calls k t275 t277 t278 t279 t280 t283 t284 _ A6.out).mono ?_); rintro e w30 ⟨v281, rfl, ho0, hb⟩; refine ⟨_, rfl, ?_⟩; have n0_ := Aside0.mk (Kd.R_lower (Kd.R_newB ho0 (g := gb272) (o := .cells #[.int .i64 a0_0, .int .i64 a0_1, .string a0_2, .slice A0_3 l0_3.length c0_3] 26 (0, 0)) (by (with_reducible repeat (first | refine blk_drewN ?_ _ | refine blk_drew ?_ | refine blk_alloc ?_ _)); exact BK272.out)) (below_size (by repeat (first | (with_reducible first | exact HB.out | apply below_alloc | apply pw_below_drewN | apply below_drew1 | refine below_set ?_ GE272.out) | exact HB.out)))); have n1_ := Aside0.mk (blk_below (g := gb272) (o := .cells #[.int .i64 a0_0, .int .i64 a0_1, .string a0_2, .slice A0_3 l0_3.length c0_3] 26 (0, 0)) (by (with_reducible repeat (first | refine blk_drewN ?_ _ | refine blk_drew ?_ | refine blk_alloc ?_ _)); exact BK272.out) hb); have n2_ := Aside0.mk (below_step (by repeat (first | (with_reducible first | exact HB.out | apply below_alloc | apply pw_below_drewN | apply below_drew1 | refine below_set ?_ GE272.out) | exact HB.out)) hb); clear BK272; clear HB; have HO282 := n0_; have BK272 := n1_; have HB := n2_; clear n0_ n1_ n2_; (try clear hb); (try clear hb2); (try clear hk); (try clear hi); (try clear ho0)) | ((with_reducible refine gate_dst (N := 5) rfl ?_); refine box_event ?hg (N := 5) ?hd (cs := #[.int .i64 0, .int .i64 0, .string (⟨#[]⟩ : ByteArray), .slice none 0 0]) (t := 26) ?hr ?_; (case hd => rfl); (case hg => rfl); (case hr => first | (go_simp; done) | (go_simp; rfl)); intro gb285 hg w31 hbox hb; have n0_ := Aside0.mk (Kd.R_below (Kd.R_elderB (by (with_reducible repeat (first | apply Kd.R_alloc | apply Kd.R_drewN | apply Kd.R_drew)); exact HO282.out) gb285 (Nat.le_of_eq hg.symm)) hb); have n1_ := Aside0.mk (blk_below (g := gb272) (o := .cells #[.int .i64 a0_0, .int .i64 a0_1, .string a0_2, .slice A0_3 l0_3.length c0_3] 26 (0, 0)) (by (with_reducible repeat (first | refine blk_drewN ?_ _ | refine blk_drew ?_ | refine blk_alloc ?_ _)); exact BK272.out) hb); have n2_ := Aside0.mk (below_step (by repeat (first | (with_reducible first | exact HB.out | apply below_alloc | apply pw_below_drewN | apply below_drew1 | refine below_set ?_ GE272.out) | exact HB.out)) hb); have n3_ := Aside0.mk (hbox); have n4_ := Aside0.mk ((by rw [hg]; exact (below_size (by repeat (first | (with_reducible first | exact HB.out | apply below_alloc | apply pw_below_drewN | apply below_drew1 | refine below_set ?_ GE272.out) | exact HB.out))) : w.heap.size ≤ gb285)); have n5_ := Aside0.mk ((by rw [hg]; exact (below_size (by repeat (first | (with_reducible first | exact HB.out | apply below_alloc | apply pw_below_drewN | apply below_drew1 | refine below_set ?_ GE272.out) | exact HB.out))) : w.heap.size ≤ gb285)); have n6_ := Aside0.mk ((by rw [hg]; exact Nat.ne_of_lt (blk_lt (g := gb272) (o := .cells #[.int .i64 a0_0, .int .i64 a0_1, .string a0_2, .slice A0_3 l0_3.length c0_3] 26 (0, 0)) (by (with_reducible repeat (first | refine blk_drewN ?_ _ | refine blk_drew ?_ | refine blk_alloc ?_ _)); exact BK272.out)) : gb272 ≠ gb285)); have n7_ := Aside0.mk ((by rw [hg]; exact Nat.ne_of_gt (blk_lt (g := gb272) (o := .cells #[.int .i64 a0_0, .int .i64 a0_1, .string a0_2, .slice A0_3 l0_3.length c0_3] 26 (0, 0)) (by (with_reducible repeat (first | refine blk_drewN ?_ _ | refine blk_drew ?_ | refine blk_alloc ?_ _)); exact BK272.out)) : gb285 ≠ gb272)); clear HO282; clear BK272; clear HB; have HO282 := n0_; have BK272 := n1_; have HB := n2_; have BK285 := n3_; have GW285 := n4_; have GE285 := n5_; have NB272_285 := n6_; have NB285_272 := n7_; clear n0_ n1_ n2_ n3_ n4_ n5_ n6_ n7_; clear hb hbox hg; have hnb32 := NB285_272.out; have hnc32 := NB272_285.out; have hcz33_0 : w31.cell? ⟨gb285, 0, none⟩ = some (.int .i64 0) := (blk_cell BK285.out 0).trans rfl; have hcz33_1 : w31.cell? ⟨gb285, 1, none⟩ = some (.int .i64 0) := (blk_cell BK285.out 1).trans rfl; have hcz33_2 : w31.cell? ⟨gb285, 2, none⟩ = some (.string (⟨#[]⟩ : ByteArray)) := (blk_cell BK285.out 2).trans rfl; have hcz33_3 : w31.cell? ⟨gb285, 3, none⟩ = some (.slice none 0 0) := (blk_cell BK285.out 3).trans rfl; have hfz33_0 := blk_frozen BK285.out 0; have hfz33_1 := blk_frozen BK285.out 1; have hfz33_2 := blk_frozen BK285.out 2; have hfz33_3 := blk_frozen BK285.out 3; obtain ⟨Ao34, co34, eo34⟩ := Kd.R_slice HO282.out; subst eo34; have hcz35_0 : w31.cell? ⟨gb272, 0, none⟩ = some (.int .i64 a0_0) := (blk_cell BK272.out 0).trans rfl; have hcz35_1 : w31.cell? ⟨gb272, 1, none⟩ = some (.int .i64 a0_1) := (blk_cell BK272.out 1).trans rfl; have hcz35_2 : w31.cell? ⟨gb272, 2, none⟩ = some (.string a0_2) := (blk_cell BK272.out 2).trans rfl; have hcz35_3 : w31.cell? ⟨gb272, 3, none⟩ = some (.slice A0_3 l0_3.length c0_3) := (blk_cell BK272.out 3).trans rfl; have hfz35_0 := blk_frozen BK272.out 0; have hfz35_1 := blk_frozen BK272.out 1; have hfz35_2 := blk_frozen BK272.out 2; have hfz35_3 := blk_frozen BK272.out 3) | (go_at_call 20; (with_reducible refine (jobshellref05_Same.calls k t277 t278 t279 _ _ t280 a0_0 a0_1 a0_2 _ _ l0_3 false _ ?side1 ?side2 ?side3 ?side4 A9.out).mono ?_); (case side1 => refine (Kd.R_reads' (e := 26) (base := w.heap.size) (ok := fun k_ => ((True ∧ k_ ≠ gb272) ∧ k_ ≠ gb285)) (n := t280.length) (c := co34) ?_).2.2; exact (by (with_reducible repeat (first | apply Kd.R_alloc | apply Kd.R_drewN | apply Kd.R_drew)); exact (Kd.R_mono (Kd.R_far (p := ⟨gb285, 3, none⟩) (Kd.R_far (p := ⟨gb285, 2, none⟩) (Kd.R_far (p := ⟨gb285, 1, none⟩) (Kd.R_far (p := ⟨gb285, 0, none⟩) (Kd.R_mono HO282.out (fun k_ hk => (⟨hk, hk.2⟩ : _ ∧ k_ ≠ gb285))) (fun _ hk => hk.2) (.int .i64 t277)) (fun _ hk => hk.2) (.int .i64 t278)) (fun _ hk => hk.2) (.string t279)) (fun _ hk => hk.2) (.slice Ao34 t280.length co34)) (fun _ h_ => h_.1)))); (case side2 => exact (Kd.R_reads' HO282.out).2.1); (case side3 => exact Kd.C_below HR0_3.out (by repeat (first | (with_reducible first | exact HB.out | apply below_alloc | apply pw_below_drewN | apply below_drew1 | refine below_set ?_ GE272.out | refine below_set ?_ GE285.out) | exact HB.out))); (case side4 => exact HC0_3.out); rintro e w36 ⟨rfl, hb⟩; have n0_ := Aside0.mk (Kd.R_below (by (with_reducible repeat (first | apply Kd.R_alloc | apply Kd.R_drewN | apply Kd.R_drew)); exact (Kd.R_mono (Kd.R_far (p := ⟨gb285, 3, none⟩) (Kd.R_far (p := ⟨gb285, 2, none⟩) (Kd.R_far (p := ⟨gb285, 1, none⟩) (Kd.R_far (p := ⟨gb285, 0, none⟩) (Kd.R_mono HO282.out (fun k_ hk => (⟨hk, hk.2⟩ : _ ∧ k_ ≠ gb285))) (fun _ hk => hk.2) (.int .i64 t277)) (fun _ hk => hk.2) (.int .i64 t278)) (fun _ hk => hk.2) (.string t279)) (fun _ hk => hk.2) (.slice Ao34 t280.length co34)) (fun _ h_ => h_.1))) hb); have n1_ := Aside0.mk (blk_below (g := gb272) (o := .cells #[.int .i64 a0_0, .int .i64 a0_1, .string a0_2, .slice A0_3 l0_3.length c0_3] 26 (0, 0)) (by (with_reducible repeat (first | refine blk_drewN ?_ _ | refine blk_drew ?_ | refine blk_alloc ?_ _)); refine blk_far ?_ NB272_285.out _; (with_reducible repeat (first | refine blk_drewN ?_ _ | refine blk_drew ?_ | refine blk_alloc ?_ _)); refine blk_far ?_ NB272_285.out _; (with_reducible repeat (first | refine blk_drewN ?_ _ | refine blk_drew ?_ | refine blk_alloc ?_ _)); refine blk_far ?_ NB272_285.out _; (with_reducible repeat (first | refine blk_drewN ?_ _ | refine blk_drew ?_ | refine blk_alloc ?_ _)); refine blk_far ?_ NB272_285.out _; (with_reducible repeat (first | refine blk_drewN ?_ _ | refine blk_drew ?_ | refine blk_alloc ?_ _)); exact BK272.out) hb); have n2_ := Aside0.mk (blk_below (g := gb285) (o := .cells #[.int .i64 t277, .int .i64 t278, .string t279, .slice Ao34 t280.length co34] 26 (0, 0)) (by (with_reducible repeat (first | refine blk_drewN ?_ _ | refine blk_drew ?_ | refine blk_alloc ?_ _)); refine blk_put (cs := #[.int .i64 t277, .int .i64 t278, .string t279, .slice none 0 0]) ?_ 3 _ rfl; (with_reducible repeat (first | refine blk_drewN ?_ _ | refine blk_drew ?_ | refine blk_alloc ?_ _)); refine blk_put (cs := #[.int .i64 t277, .int .i64 t278, .string (⟨#[]⟩ : ByteArray), .slice none 0 0]) ?_ 2 _ rfl; (with_reducible repeat (first | refine blk_drewN ?_ _ | refine blk_drew ?_ | refine blk_alloc ?_ _)); refine blk_put (cs := #[.int .i64 t277, .int .i64 0, .string (⟨#[]⟩ : ByteArray), .slice none 0 0]) ?_ 1 _ rfl; (with_reducible repeat (first | refine blk_drewN ?_ _ | refine blk_drew ?_ | refine blk_alloc ?_ _)); refine blk_put (cs := #[.int .i64 0, .int .i64 0, .string (⟨#[]⟩ : ByteArray), .slice none 0 0]) ?_ 0 _ rfl; (with_reducible repeat (first | refine blk_drewN ?_ _ | refine blk_drew ?_ | refine blk_alloc ?_ _)); exact BK285.out) hb); have n3_ := Aside0.mk (below_step (by repeat (first | (with_reducible first | exact HB.out | apply below_alloc | apply pw_below_drewN | apply below_drew1 | refine below_set ?_ GE272.out | refine below_set ?_ GE285.out) | exact HB.out)) hb); clear HO282; clear BK272; clear BK285; clear HB; have HO282 := n0_; have BK272 := n1_; have BK285 := n2_; have HB := n3_; clear n0_ n1_ n2_ n3_; (try clear hb); (try clear hb2); (try clear hk); (try clear hi)))
      go_ret
      exact ⟨by first | rfl | (simp [errW_none, errW_some] <;> rfl) | (simp [*, errW_none, errW_some] <;> rfl), by repeat (first | (with_reducible first | exact HB.out | apply below_alloc | apply pw_below_drewN | apply below_drew1 | refine below_set ?_ GE272.out | refine below_set ?_ GE285.out) | exact HB.out)⟩
    ·rw [if_neg c8] at H
     have c8b0 : (t283 == 0) = false := beq_eq_false_iff_ne.mpr c8
     have c8b1 : (t283 != 0) = true := bne_iff_ne.mpr c8
     obtain rfl := Option.some.inj H
     go_enter Tryd.func7, Tryd.ntmps7
     go_wp2_with (first | ((with_reducible refine gate_dst (N := 1) rfl ?_); refine box_event ?hg (N := 1) ?hd (cs := #[.int .i64 a0_0, .int .i64 a0_1, .string a0_2, .slice A0_3 l0_3.length c0_3]) (t := 26) ?hr ?_; (case hd => rfl); (case hg => rfl); (case hr => first | (go_simp; done) | (go_simp; rfl)); intro gb272 hg w37 hbox hb; have n0_ := Aside0.mk (below_step (by repeat (first | (with_reducible first | exact HB.out | apply below_alloc | apply pw_below_drewN | apply below_drew1) | exact HB.out)) hb); have n1_ := Aside0.mk (hbox); have n2_ := Aside0.mk ((by rw [hg]; exact (below_size (by repeat (first | (with_reducible first | exact HB.out | apply below_alloc | apply pw_below_drewN | apply below_drew1) | exact HB.out))) : w.heap.size ≤ gb272)); have n3_ := Aside0.mk ((by rw [hg]; exact (below_size (by repeat (first | (with_reducible first | exact HB.out | apply below_alloc | apply pw_below_drewN | apply below_drew1) | exact HB.out))) : w.heap.size ≤ gb272)); clear HB; have HB := n0_; have BK272 := n1_; have GW272 := n2_; have GE272 := n3_; clear n0_ n1_ n2_ n3_; clear hb hbox hg; have hcz38_0 : w37.cell? ⟨gb272, 0, none⟩ = some (.int .i64 a0_0) := (blk_cell BK272.out 0).trans rfl; have hcz38_1 : w37.cell? ⟨gb272, 1, none⟩ = some (.int .i64 a0_1) := (blk_cell BK272.out 1).trans rfl; have hcz38_2 : w37.cell? ⟨gb272, 2, none⟩ = some (.string a0_2) := (blk_cell BK272.out 2).trans rfl; have hcz38_3 : w37.cell? ⟨gb272, 3, none⟩ = some (.slice A0_3 l0_3.length c0_3) := (blk_cell BK272.out 3).trans rfl; have hfz38_0 := blk_frozen BK272.out 0; have hfz38_1 := blk_frozen BK272.out 1; have hfz38_2 := blk_frozen BK272.out 2; have hfz38_3 := blk_frozen BK272.out 3) | ((with_reducible refine gate_callee (f := 21) rfl ?_); refine goesL_ (some 9) rfl rfl Tryd.func21 (by kernel_rfl) rfl #[.agg #[.int .i64 a0_0, .int .i64 a0_1, .string a0_2, .slice A0_3 l0_3.length c0_3], .int .i64 60] rfl (by (try simp only [List.map_toArray, List.map_cons, List.map_nil]); first | done | rfl | (simp only [List.length_drop, List.length_take]; rfl)) ?_; (with_reducible refine (jobshellref05_Small.calls k a0_0 a0_1 a0_2 _ _ l0_3 60 true _ ?side1 ?side2 A2.out).mono ?_); (case side1 => repeat (first | exact (Kd.C_below HR0_3.out HB.out) | (with_reducible refine Kd.C_alloc ?_ _) | (with_reducible refine Kd.C_drewN ?_ _) | (with_reducible refine Kd.C_drew ?_))); (case side2 => exact HC0_3.out); rintro e w39 ⟨rfl, hb⟩; refine ⟨_, rfl, ?_⟩; have n0_ := Aside0.mk (blk_below (g := gb272) (o := .cells #[.int .i64 a0_0, .int .i64 a0_1, .string a0_2, .slice A0_3 l0_3.length c0_3] 26 (0, 0)) (by (with_reducible repeat (first | refine blk_drewN ?_ _ | refine blk_drew ?_ | refine blk_alloc ?_ _)); exact BK272.out) hb); have n1_ := Aside0.mk (below_step (by repeat (first | (with_reducible first | exact HB.out | apply below_alloc | apply pw_below_drewN | apply below_drew1 | refine below_set ?_ GE272.out) | exact HB.out)) hb); clear BK272; clear HB; have BK272 := n0_; have HB := n1_; clear n0_ n1_; (try clear hb); (try clear hb2); (try clear hk); (try clear hi); have hcz40_0 : w39.cell? ⟨gb272, 0, none⟩ = some (.int .i64 a0_0) := (blk_cell BK272.out 0).trans rfl; have hcz40_1 : w39.cell? ⟨gb272, 1, none⟩ = some (.int .i64 a0_1) := (blk_cell BK272.out 1).trans rfl; have hcz40_2 : w39.cell? ⟨gb272, 2, none⟩ = some (.string a0_2) := (blk_cell BK272.out 2).trans rfl; have hcz40_3 : w39.cell? ⟨gb272, 3, none⟩ = some (.slice A0_3 l0_3.length c0_3) := (blk_cell BK272.out 3).trans rfl; have hfz40_0 := blk_frozen BK272.out 0; have hfz40_1 := blk_frozen BK272.out 1; have hfz40_2 := blk_frozen BK272.out 2; have hfz40_3 := blk_frozen BK272.out 3) | ((with_reducible refine gate_callee (f := 22) rfl ?_); refine goesL_ (some 14) rfl rfl Tryd.func22 (by kernel_rfl) rfl #[.agg #[.int .i64 a0_0, .int .i64 a0_1, .string a0_2, .slice A0_3 l0_3.length c0_3]] rfl (by (try simp only [List.map_toArray, List.map_cons, List.map_nil]); first | done | rfl | (simp only [List.length_drop, List.length_take]; rfl)) ?_; (with_reducible refine (arith_Show.calls k a0_0 a0_1 a0_2 _ _ l0_3 t275 t276 _ ?side1 ?side2 A4.out).mono ?_); (case side1 => repeat (first | exact (Kd.C_below HR0_3.out HB.out) | (with_reducible refine Kd.C_alloc ?_ _) | (with_reducible refine Kd.C_drewN ?_ _) | (with_reducible refine Kd.C_drew ?_))); (case side2 => exact HC0_3.out); rintro e w41 ⟨rfl, hb⟩; refine ⟨_, rfl, ?_⟩; have n0_ := Aside0.mk (blk_below (g := gb272) (o := .cells #[.int .i64 a0_0, .int .i64 a0_1, .string a0_2, .slice A0_3 l0_3.length c0_3] 26 (0, 0)) (by (with_reducible repeat (first | refine blk_drewN ?_ _ | refine blk_drew ?_ | refine blk_alloc ?_ _)); exact BK272.out) hb); have n1_ := Aside0.mk (below_step (by repeat (first | (with_reducible first | exact HB.out | apply below_alloc | apply pw_below_drewN | apply below_drew1 | refine below_set ?_ GE272.out) | exact HB.out)) hb); clear BK272; clear HB; have BK272 := n0_; have HB := n1_; clear n0_ n1_; (try clear hb); (try clear hb2); (try clear hk); (try clear hi)) | ((with_reducible refine gate_callee (f := 18) rfl ?_); refine goesL_ (some 26) rfl rfl Tryd.func18 (by kernel_rfl) rfl #[.string t275] rfl (by (try simp only [List.map_toArray, List.map_cons, List.map_nil]); first | done | rfl | (simp only [List.length_drop, List.length_take]; rfl)) ?_; (with_reducible refine (arith_Parse.calls k t275 t277 t278 t279 t280 t283 t284 _ A6.out).mono ?_); rintro e w42 ⟨v281, rfl, ho0, hb⟩; refine ⟨_, rfl, ?_⟩; have n0_ := Aside0.mk (Kd.R_lower (Kd.R_newB ho0 (g := gb272) (o := .cells #[.int .i64 a0_0, .int .i64 a0_1, .string a0_2, .slice A0_3 l0_3.length c0_3] 26 (0, 0)) (by (with_reducible repeat (first | refine blk_drewN ?_ _ | refine blk_drew ?_ | refine blk_alloc ?_ _)); exact BK272.out)) (below_size (by repeat (first | (with_reducible first | exact HB.out | apply below_alloc | apply pw_below_drewN | apply below_drew1 | refine below_set ?_ GE272.out) | exact HB.out)))); have n1_ := Aside0.mk (blk_below (g := gb272) (o := .cells #[.int .i64 a0_0, .int .i64 a0_1, .string a0_2, .slice A0_3 l0_3.length c0_3] 26 (0, 0)) (by (with_reducible repeat (first | refine blk_drewN ?_ _ | refine blk_drew ?_ | refine blk_alloc ?_ _)); exact BK272.out) hb); have n2_ := Aside0.mk (below_step (by repeat (first | (with_reducible first | exact HB.out | apply below_alloc | apply pw_below_drewN | apply below_drew1 | refine below_set ?_ GE272.out) | exact HB.out)) hb); clear BK272; clear HB; have HO282 := n0_; have BK272 := n1_; have HB := n2_; clear n0_ n1_ n2_; (try clear hb); (try clear hb2); (try clear hk); (try clear hi); (try clear ho0)) | ((with_reducible refine gate_dst (N := 5) rfl ?_); refine box_event ?hg (N := 5) ?hd (cs := #[.int .i64 0, .int .i64 0, .string (⟨#[]⟩ : ByteArray), .slice none 0 0]) (t := 26) ?hr ?_; (case hd => rfl); (case hg => rfl); (case hr => first | (go_simp; done) | (go_simp; rfl)); intro gb285 hg w43 hbox hb; have n0_ := Aside0.mk (Kd.R_below (Kd.R_elderB (by (with_reducible repeat (first | apply Kd.R_alloc | apply Kd.R_drewN | apply Kd.R_drew)); exact HO282.out) gb285 (Nat.le_of_eq hg.symm)) hb); have n1_ := Aside0.mk (blk_below (g := gb272) (o := .cells #[.int .i64 a0_0, .int .i64 a0_1, .string a0_2, .slice A0_3 l0_3.length c0_3] 26 (0, 0)) (by (with_reducible repeat (first | refine blk_drewN ?_ _ | refine blk_drew ?_ | refine blk_alloc ?_ _)); exact BK272.out) hb); have n2_ := Aside0.mk (below_step (by repeat (first | (with_reducible first | exact HB.out | apply below_alloc | apply pw_below_drewN | apply below_drew1 | refine below_set ?_ GE272.out) | exact HB.out)) hb); have n3_ := Aside0.mk (hbox); have n4_ := Aside0.mk ((by rw [hg]; exact (below_size (by repeat (first | (with_reducible first | exact HB.out | apply below_alloc | apply pw_below_drewN | apply below_drew1 | refine below_set ?_ GE272.out) | exact HB.out))) : w.heap.size ≤ gb285)); have n5_ := Aside0.mk ((by rw [hg]; exact (below_size (by repeat (first | (with_reducible first | exact HB.out | apply below_alloc | apply pw_below_drewN | apply below_drew1 | refine below_set ?_ GE272.out) | exact HB.out))) : w.heap.size ≤ gb285)); have n6_ := Aside0.mk ((by rw [hg]; exact Nat.ne_of_lt (blk_lt (g := gb272) (o := .cells #[.int .i64 a0_0, .int .i64 a0_1, .string a0_2, .slice A0_3 l0_3.length c0_3] 26 (0, 0)) (by (with_reducible repeat (first | refine blk_drewN ?_ _ | refine blk_drew ?_ | refine blk_alloc ?_ _)); exact BK272.out)) : gb272 ≠ gb285)); have n7_ := Aside0.mk ((by rw [hg]; exact Nat.ne_of_gt (blk_lt (g := gb272) (o := .cells #[.int .i64 a0_0, .int .i64 a0_1, .string a0_2, .slice A0_3 l0_3.length c0_3] 26 (0, 0)) (by (with_reducible repeat (first | refine blk_drewN ?_ _ | refine blk_drew ?_ | refine blk_alloc ?_ _)); exact BK272.out)) : gb285 ≠ gb272)); clear HO282; clear BK272; clear HB; have HO282 := n0_; have BK272 := n1_; have HB := n2_; have BK285 := n3_; have GW285 := n4_; have GE285 := n5_; have NB272_285 := n6_; have NB285_272 := n7_; clear n0_ n1_ n2_ n3_ n4_ n5_ n6_ n7_; clear hb hbox hg; have hnb44 := NB285_272.out; have hnc44 := NB272_285.out; have hcz45_0 : w43.cell? ⟨gb285, 0, none⟩ = some (.int .i64 0) := (blk_cell BK285.out 0).trans rfl; have hcz45_1 : w43.cell? ⟨gb285, 1, none⟩ = some (.int .i64 0) := (blk_cell BK285.out 1).trans rfl; have hcz45_2 : w43.cell? ⟨gb285, 2, none⟩ = some (.string (⟨#[]⟩ : ByteArray)) := (blk_cell BK285.out 2).trans rfl; have hcz45_3 : w43.cell? ⟨gb285, 3, none⟩ = some (.slice none 0 0) := (blk_cell BK285.out 3).trans rfl; have hfz45_0 := blk_frozen BK285.out 0; have hfz45_1 := blk_frozen BK285.out 1; have hfz45_2 := blk_frozen BK285.out 2; have hfz45_3 := blk_frozen BK285.out 3; obtain ⟨Ao46, co46, eo46⟩ := Kd.R_slice HO282.out; subst eo46))
     go_ret
     exact ⟨by first | rfl | (simp [errW_none, errW_some] <;> rfl) | (simp [*, errW_none, errW_some] <;> rfl), by repeat (first | (with_reducible first | exact HB.out | apply below_alloc | apply pw_below_drewN | apply below_drew1 | refine below_set ?_ GE272.out | refine below_set ?_ GE285.out) | exact HB.out)⟩
   ·rw [if_neg c7] at H
    have c7b0 : (t284 == 0) = false := beq_eq_false_iff_ne.mpr c7
    have c7b1 : (t284 != 0) = true := bne_iff_ne.mpr c7
    obtain rfl := Option.some.inj H
    go_enter Tryd.func7, Tryd.ntmps7
    go_wp2_with (first | ((with_reducible refine gate_dst (N := 1) rfl ?_); refine box_event ?hg (N := 1) ?hd (cs := #[.int .i64 a0_0, .int .i64 a0_1, .string a0_2, .slice A0_3 l0_3.length c0_3]) (t := 26) ?hr ?_; (case hd => rfl); (case hg => rfl); (case hr => first | (go_simp; done) | (go_simp; rfl)); intro gb272 hg w47 hbox hb; have n0_ := Aside0.mk (below_step (by repeat (first | (with_reducible first | exact HB.out | apply below_alloc | apply pw_below_drewN | apply below_drew1) | exact HB.out)) hb); have n1_ := Aside0.mk (hbox); have n2_ := Aside0.mk ((by rw [hg]; exact (below_size (by repeat (first | (with_reducible first | exact HB.out | apply below_alloc | apply pw_below_drewN | apply below_drew1) | exact HB.out))) : w.heap.size ≤ gb272)); have n3_ := Aside0.mk ((by rw [hg]; exact (below_size (by repeat (first | (with_reducible first | exact HB.out | apply below_alloc | apply pw_below_drewN | apply below_drew1) | exact HB.out))) : w.heap.size ≤ gb272)); clear HB; have HB := n0_; have BK272 := n1_; have GW272 := n2_; have GE272 := n3_; clear n0_ n1_ n2_ n3_; clear hb hbox hg; have hcz48_0 : w47.cell? ⟨gb272, 0, none⟩ = some (.int .i64 a0_0) := (blk_cell BK272.out 0).trans rfl; have hcz48_1 : w47.cell? ⟨gb272, 1, none⟩ = some (.int .i64 a0_1) := (blk_cell BK272.out 1).trans rfl; have hcz48_2 : w47.cell? ⟨gb272, 2, none⟩ = some (.string a0_2) := (blk_cell BK272.out 2).trans rfl; have hcz48_3 : w47.cell? ⟨gb272, 3, none⟩ = some (.slice A0_3 l0_3.length c0_3) := (blk_cell BK272.out 3).trans rfl; have hfz48_0 := blk_frozen BK272.out 0; have hfz48_1 := blk_frozen BK272.out 1; have hfz48_2 := blk_frozen BK272.out 2; have hfz48_3 := blk_frozen BK272.out 3) | ((with_reducible refine gate_callee (f := 21) rfl ?_); refine goesL_ (some 9) rfl rfl Tryd.func21 (by kernel_rfl) rfl #[.agg #[.int .i64 a0_0, .int .i64 a0_1, .string a0_2, .slice A0_3 l0_3.length c0_3], .int .i64 60] rfl (by (try simp only [List.map_toArray, List.map_cons, List.map_nil]); first | done | rfl | (simp only [List.length_drop, List.length_take]; rfl)) ?_; (with_reducible refine (jobshellref05_Small.calls k a0_0 a0_1 a0_2 _ _ l0_3 60 true _ ?side1 ?side2 A2.out).mono ?_); (case side1 => repeat (first | exact (Kd.C_below HR0_3.out HB.out) | (with_reducible refine Kd.C_alloc ?_ _) | (with_reducible refine Kd.C_drewN ?_ _) | (with_reducible refine Kd.C_drew ?_))); (case side2 => exact HC0_3.out); rintro e w49 ⟨rfl, hb⟩; refine ⟨_, rfl, ?_⟩; have n0_ := Aside0.mk (blk_below (g := gb272) (o := .cells #[.int .i64 a0_0, .int .i64 a0_1, .string a0_2, .slice A0_3 l0_3.length c0_3] 26 (0, 0)) (by (with_reducible repeat (first | refine blk_drewN ?_ _ | refine blk_drew ?_ | refine blk_alloc ?_ _)); exact BK272.out) hb); have n1_ := Aside0.mk (below_step (by repeat (first | (with_reducible first | exact HB.out | apply below_alloc | apply pw_below_drewN | apply below_drew1 | refine below_set ?_ GE272.out) | exact HB.out)) hb); clear BK272; clear HB; have BK272 := n0_; have HB := n1_; clear n0_ n1_; (try clear hb); (try clear hb2); (try clear hk); (try clear hi); have hcz50_0 : w49.cell? ⟨gb272, 0, none⟩ = some (.int .i64 a0_0) := (blk_cell BK272.out 0).trans rfl; have hcz50_1 : w49.cell? ⟨gb272, 1, none⟩ = some (.int .i64 a0_1) := (blk_cell BK272.out 1).trans rfl; have hcz50_2 : w49.cell? ⟨gb272, 2, none⟩ = some (.string a0_2) := (blk_cell BK272.out 2).trans rfl; have hcz50_3 : w49.cell? ⟨gb272, 3, none⟩ = some (.slice A0_3 l0_3.length c0_3) := (blk_cell BK272.out 3).trans rfl; have hfz50_0 := blk_frozen BK272.out 0; have hfz50_1 := blk_frozen BK272.out 1; have hfz50_2 := blk_frozen BK272.out 2; have hfz50_3 := blk_frozen BK272.out 3) | ((with_reducible refine gate_callee (f := 22) rfl ?_); refine goesL_ (some 14) rfl rfl Tryd.func22 (by kernel_rfl) rfl #[.agg #[.int .i64 a0_0, .int .i64 a0_1, .string a0_2, .slice A0_3 l0_3.length c0_3]] rfl (by (try simp only [List.map_toArray, List.map_cons, List.map_nil]); first | done | rfl | (simp only [List.length_drop, List.length_take]; rfl)) ?_; (with_reducible refine (arith_Show.calls k a0_0 a0_1 a0_2 _ _ l0_3 t275 t276 _ ?side1 ?side2 A4.out).mono ?_); (case side1 => repeat (first | exact (Kd.C_below HR0_3.out HB.out) | (with_reducible refine Kd.C_alloc ?_ _) | (with_reducible refine Kd.C_drewN ?_ _) | (with_reducible refine Kd.C_drew ?_))); (case side2 => exact HC0_3.out); rintro e w51 ⟨rfl, hb⟩; refine ⟨_, rfl, ?_⟩; have n0_ := Aside0.mk (blk_below (g := gb272) (o := .cells #[.int .i64 a0_0, .int .i64 a0_1, .string a0_2, .slice A0_3 l0_3.length c0_3] 26 (0, 0)) (by (with_reducible repeat (first | refine blk_drewN ?_ _ | refine blk_drew ?_ | refine blk_alloc ?_ _)); exact BK272.out) hb); have n1_ := Aside0.mk (below_step (by repeat (first | (with_reducible first | exact HB.out | apply below_alloc | apply pw_below_drewN | apply below_drew1 | refine below_set ?_ GE272.out) | exact HB.out)) hb); clear BK272; clear HB; have BK272 := n0_; have HB := n1_; clear n0_ n1_; (try clear hb); (try clear hb2); (try clear hk); (try clear hi)) | ((with_reducible refine gate_callee (f := 18) rfl ?_); refine goesL_ (some 26) rfl rfl Tryd.func18 (by kernel_rfl) rfl #[.string t275] rfl (by (try simp only [List.map_toArray, List.map_cons, List.map_nil]); first | done | rfl | (simp only [List.length_drop, List.length_take]; rfl)) ?_; (with_reducible refine (arith_Parse.calls k t275 t277 t278 t279 t280 t283 t284 _ A6.out).mono ?_); rintro e w52 ⟨v281, rfl, ho0, hb⟩; refine ⟨_, rfl, ?_⟩; have n0_ := Aside0.mk (Kd.R_lower (Kd.R_newB ho0 (g := gb272) (o := .cells #[.int .i64 a0_0, .int .i64 a0_1, .string a0_2, .slice A0_3 l0_3.length c0_3] 26 (0, 0)) (by (with_reducible repeat (first | refine blk_drewN ?_ _ | refine blk_drew ?_ | refine blk_alloc ?_ _)); exact BK272.out)) (below_size (by repeat (first | (with_reducible first | exact HB.out | apply below_alloc | apply pw_below_drewN | apply below_drew1 | refine below_set ?_ GE272.out) | exact HB.out)))); have n1_ := Aside0.mk (blk_below (g := gb272) (o := .cells #[.int .i64 a0_0, .int .i64 a0_1, .string a0_2, .slice A0_3 l0_3.length c0_3] 26 (0, 0)) (by (with_reducible repeat (first | refine blk_drewN ?_ _ | refine blk_drew ?_ | refine blk_alloc ?_ _)); exact BK272.out) hb); have n2_ := Aside0.mk (below_step (by repeat (first | (with_reducible first | exact HB.out | apply below_alloc | apply pw_below_drewN | apply below_drew1 | refine below_set ?_ GE272.out) | exact HB.out)) hb); clear BK272; clear HB; have HO282 := n0_; have BK272 := n1_; have HB := n2_; clear n0_ n1_ n2_; (try clear hb); (try clear hb2); (try clear hk); (try clear hi); (try clear ho0)) | ((with_reducible refine gate_dst (N := 5) rfl ?_); refine box_event ?hg (N := 5) ?hd (cs := #[.int .i64 0, .int .i64 0, .string (⟨#[]⟩ : ByteArray), .slice none 0 0]) (t := 26) ?hr ?_; (case hd => rfl); (case hg => rfl); (case hr => first | (go_simp; done) | (go_simp; rfl)); intro gb285 hg w53 hbox hb; have n0_ := Aside0.mk (Kd.R_below (Kd.R_elderB (by (with_reducible repeat (first | apply Kd.R_alloc | apply Kd.R_drewN | apply Kd.R_drew)); exact HO282.out) gb285 (Nat.le_of_eq hg.symm)) hb); have n1_ := Aside0.mk (blk_below (g := gb272) (o := .cells #[.int .i64 a0_0, .int .i64 a0_1, .string a0_2, .slice A0_3 l0_3.length c0_3] 26 (0, 0)) (by (with_reducible repeat (first | refine blk_drewN ?_ _ | refine blk_drew ?_ | refine blk_alloc ?_ _)); exact BK272.out) hb); have n2_ := Aside0.mk (below_step (by repeat (first | (with_reducible first | exact HB.out | apply below_alloc | apply pw_below_drewN | apply below_drew1 | refine below_set ?_ GE272.out) | exact HB.out)) hb); have n3_ := Aside0.mk (hbox); have n4_ := Aside0.mk ((by rw [hg]; exact (below_size (by repeat (first | (with_reducible first | exact HB.out | apply below_alloc | apply pw_below_drewN | apply below_drew1 | refine below_set ?_ GE272.out) | exact HB.out))) : w.heap.size ≤ gb285)); have n5_ := Aside0.mk ((by rw [hg]; exact (below_size (by repeat (first | (with_reducible first | exact HB.out | apply below_alloc | apply pw_below_drewN | apply below_drew1 | refine below_set ?_ GE272.out) | exact HB.out))) : w.heap.size ≤ gb285)); have n6_ := Aside0.mk ((by rw [hg]; exact Nat.ne_of_lt (blk_lt (g := gb272) (o := .cells #[.int .i64 a0_0, .int .i64 a0_1, .string a0_2, .slice A0_3 l0_3.length c0_3] 26 (0, 0)) (by (with_reducible repeat (first | refine blk_drewN ?_ _ | refine blk_drew ?_ | refine blk_alloc ?_ _)); exact BK272.out)) : gb272 ≠ gb285)); have n7_ := Aside0.mk ((by rw [hg]; exact Nat.ne_of_gt (blk_lt (g := gb272) (o := .cells #[.int .i64 a0_0, .int .i64 a0_1, .string a0_2, .slice A0_3 l0_3.length c0_3] 26 (0, 0)) (by (with_reducible repeat (first | refine blk_drewN ?_ _ | refine blk_drew ?_ | refine blk_alloc ?_ _)); exact BK272.out)) : gb285 ≠ gb272)); clear HO282; clear BK272; clear HB; have HO282 := n0_; have BK272 := n1_; have HB := n2_; have BK285 := n3_; have GW285 := n4_; have GE285 := n5_; have NB272_285 := n6_; have NB285_272 := n7_; clear n0_ n1_ n2_ n3_ n4_ n5_ n6_ n7_; clear hb hbox hg; have hnb54 := NB285_272.out; have hnc54 := NB272_285.out; have hcz55_0 : w53.cell? ⟨gb285, 0, none⟩ = some (.int .i64 0) := (blk_cell BK285.out 0).trans rfl; have hcz55_1 : w53.cell? ⟨gb285, 1, none⟩ = some (.int .i64 0) := (blk_cell BK285.out 1).trans rfl; have hcz55_2 : w53.cell? ⟨gb285, 2, none⟩ = some (.string (⟨#[]⟩ : ByteArray)) := (blk_cell BK285.out 2).trans rfl; have hcz55_3 : w53.cell? ⟨gb285, 3, none⟩ = some (.slice none 0 0) := (blk_cell BK285.out 3).trans rfl; have hfz55_0 := blk_frozen BK285.out 0; have hfz55_1 := blk_frozen BK285.out 1; have hfz55_2 := blk_frozen BK285.out 2; have hfz55_3 := blk_frozen BK285.out 3; obtain ⟨Ao56, co56, eo56⟩ := Kd.R_slice HO282.out; subst eo56))
    go_ret
    exact ⟨by first | rfl | (simp [errW_none, errW_some] <;> rfl) | (simp [*, errW_none, errW_some] <;> rfl), by repeat (first | (with_reducible first | exact HB.out | apply below_alloc | apply pw_below_drewN | apply below_drew1 | refine below_set ?_ GE272.out | refine below_set ?_ GE285.out) | exact HB.out)⟩
  ·rw [if_neg c5] at H
   have c5b0 : (t276 == 0) = false := beq_eq_false_iff_ne.mpr c5
   have c5b1 : (t276 != 0) = true := bne_iff_ne.mpr c5
   by_cases c57 : t275.toList = ([] : List UInt8)
   ·rw [if_pos c57] at H
    have c57b0 : (t275.toList == ([] : List UInt8)) = true := beq_iff_eq.mpr c57
    have c57b1 : (t275.toList != ([] : List UInt8)) = false := bne_eq_false_iff_eq.mpr c57
    clear c57
    replace H := Option.bind_eq_some_iff.mp H
    obtain ⟨t288, A580, H⟩ := H
    replace H : (some t288) = some r := H
    have A58 := Aside0.mk A580
    clear A580
    obtain rfl := Option.some.inj H
    go_enter Tryd.func7, Tryd.ntmps7
    go_wp2_with (first | ((with_reducible refine gate_dst (N := 1) rfl ?_); refine box_event ?hg (N := 1) ?hd (cs := #[.int .i64 a0_0, .int .i64 a0_1, .string a0_2, .slice A0_3 l0_3.length c0_3]) (t := 26) ?hr ?_; (case hd => rfl); (case hg => rfl); (case hr => first | (go_simp; done) | (go_simp; rfl)); intro gb272 hg w59 hbox hb; have n0_ := Aside0.mk (below_step (by repeat (first | (with_reducible first | exact HB.out | apply below_alloc | apply pw_below_drewN | apply below_drew1) | exact HB.out)) hb); have n1_ := Aside0.mk (hbox); have n2_ := Aside0.mk ((by rw [hg]; exact (below_size (by repeat (first | (with_reducible first | exact HB.out | apply below_alloc | apply pw_below_drewN | apply below_drew1) | exact HB.out))) : w.heap.size ≤ gb272)); have n3_ := Aside0.mk ((by rw [hg]; exact (below_size (by repeat (first | (with_reducible first | exact HB.out | apply below_alloc | apply pw_below_drewN | apply below_drew1) | exact HB.out))) : w.heap.size ≤ gb272)); clear HB; have HB := n0_; have BK272 := n1_; have GW272 := n2_; have GE272 := n3_; clear n0_ n1_ n2_ n3_; clear hb hbox hg; have hcz60_0 : w59.cell? ⟨gb272, 0, none⟩ = some (.int .i64 a0_0) := (blk_cell BK272.out 0).trans rfl; have hcz60_1 : w59.cell? ⟨gb272, 1, none⟩ = some (.int .i64 a0_1) := (blk_cell BK272.out 1).trans rfl; have hcz60_2 : w59.cell? ⟨gb272, 2, none⟩ = some (.string a0_2) := (blk_cell BK272.out 2).trans rfl; have hcz60_3 : w59.cell? ⟨gb272, 3, none⟩ = some (.slice A0_3 l0_3.length c0_3) := (blk_cell BK272.out 3).trans rfl; have hfz60_0 := blk_frozen BK272.out 0; have hfz60_1 := blk_frozen BK272.out 1; have hfz60_2 := blk_frozen BK272.out 2; have hfz60_3 := blk_frozen BK272.out 3) | ((with_reducible refine gate_callee (f := 21) rfl ?_); refine goesL_ (some 9) rfl rfl Tryd.func21 (by kernel_rfl) rfl #[.agg #[.int .i64 a0_0, .int .i64 a0_1, .string a0_2, .slice A0_3 l0_3.length c0_3], .int .i64 60] rfl (by (try simp only [List.map_toArray, List.map_cons, List.map_nil]); first | done | rfl | (simp only [List.length_drop, List.length_take]; rfl)) ?_; (with_reducible refine (jobshellref05_Small.calls k a0_0 a0_1 a0_2 _ _ l0_3 60 true _ ?side1 ?side2 A2.out).mono ?_); (case side1 => repeat (first | exact (Kd.C_below HR0_3.out HB.out) | (with_reducible refine Kd.C_alloc ?_ _) | (with_reducible refine Kd.C_drewN ?_ _) | (with_reducible refine Kd.C_drew ?_))); (case side2 => exact HC0_3.out); rintro e w61 ⟨rfl, hb⟩; refine ⟨_, rfl, ?_⟩; have n0_ := Aside0.mk (blk_below (g := gb272) (o := .cells #[.int .i64 a0_0, .int .i64 a0_1, .string a0_2, .slice A0_3 l0_3.length c0_3] 26 (0, 0)) (by (with_reducible repeat (first | refine blk_drewN ?_ _ | refine blk_drew ?_ | refine blk_alloc ?_ _)); exact BK272.out) hb); have n1_ := Aside0.mk (below_step (by repeat (first | (with_reducible first | exact HB.out | apply below_alloc | apply pw_below_drewN | apply below_drew1 | refine below_set ?_ GE272.out) | exact HB.out)) hb); clear BK272; clear HB; have BK272 := n0_; have HB := n1_; clear n0_ n1_; (try clear hb); (try clear hb2); (try clear hk); (try clear hi); have hcz62_0 : w61.cell? ⟨gb272, 0, none⟩ = some (.int .i64 a0_0) := (blk_cell BK272.out 0).trans rfl; have hcz62_1 : w61.cell? ⟨gb272, 1, none⟩ = some (.int .i64 a0_1) := (blk_cell BK272.out 1).trans rfl; have hcz62_2 : w61.cell? ⟨gb272, 2, none⟩ = some (.string a0_2) := (blk_cell BK272.out 2).trans rfl; have hcz62_3 : w61.cell? ⟨gb272, 3, none⟩ = some (.slice A0_3 l0_3.length c0_3) := (blk_cell BK272.out 3).trans rfl; have hfz62_0 := blk_frozen BK272.out 0; have hfz62_1 := blk_frozen BK272.out 1; have hfz62_2 := blk_frozen BK272.out 2; have hfz62_3 := blk_frozen BK272.out 3) | ((with_reducible refine gate_callee (f := 22) rfl ?_); refine goesL_ (some 14) rfl rfl Tryd.func22 (by kernel_rfl) rfl #[.agg #[.int .i64 a0_0, .int .i64 a0_1, .string a0_2, .slice A0_3 l0_3.length c0_3]] rfl (by (try simp only [List.map_toArray, List.map_cons, List.map_nil]); first | done | rfl | (simp only [List.length_drop, List.length_take]; rfl)) ?_; (with_reducible refine (arith_Show.calls k a0_0 a0_1 a0_2 _ _ l0_3 t275 t276 _ ?side1 ?side2 A4.out).mono ?_); (case side1 => repeat (first | exact (Kd.C_below HR0_3.out HB.out) | (with_reducible refine Kd.C_alloc ?_ _) | (with_reducible refine Kd.C_drewN ?_ _) | (with_reducible refine Kd.C_drew ?_))); (case side2 => exact HC0_3.out); rintro e w63 ⟨rfl, hb⟩; refine ⟨_, rfl, ?_⟩; have n0_ := Aside0.mk (blk_below (g := gb272) (o := .cells #[.int .i64 a0_0, .int .i64 a0_1, .string a0_2, .slice A0_3 l0_3.length c0_3] 26 (0, 0)) (by (with_reducible repeat (first | refine blk_drewN ?_ _ | refine blk_drew ?_ | refine blk_alloc ?_ _)); exact BK272.out) hb); have n1_ := Aside0.mk (below_step (by repeat (first | (with_reducible first | exact HB.out | apply below_alloc | apply pw_below_drewN | apply below_drew1 | refine below_set ?_ GE272.out) | exact HB.out)) hb); clear BK272; clear HB; have BK272 := n0_; have HB := n1_; clear n0_ n1_; (try clear hb); (try clear hb2); (try clear hk); (try clear hi)) | (go_at_call 17; (with_reducible refine (jobshelllaw05_awake.calls k  t288 _ A58.out).mono ?_); rintro e w64 ⟨rfl, hb⟩; have n0_ := Aside0.mk (blk_below (g := gb272) (o := .cells #[.int .i64 a0_0, .int .i64 a0_1, .string a0_2, .slice A0_3 l0_3.length c0_3] 26 (0, 0)) (by (with_reducible repeat (first | refine blk_drewN ?_ _ | refine blk_drew ?_ | refine blk_alloc ?_ _)); exact BK272.out) hb); have n1_ := Aside0.mk (below_step (by repeat (first | (with_reducible first | exact HB.out | apply below_alloc | apply pw_below_drewN | apply below_drew1 | refine below_set ?_ GE272.out) | exact HB.out)) hb); clear BK272; clear HB; have BK272 := n0_; have HB := n1_; clear n0_ n1_; (try clear hb); (try clear hb2); (try clear hk); (try clear hi)))
    go_ret
    exact ⟨by first | rfl | (simp [errW_none, errW_some] <;> rfl) | (simp [*, errW_none, errW_some] <;> rfl), by repeat (first | (with_reducible first | exact HB.out | apply below_alloc | apply pw_below_drewN | apply below_drew1 | refine below_set ?_ GE272.out) | exact HB.out)⟩
   ·rw [if_neg c57] at H
    have c57b0 : (t275.toList == ([] : List UInt8)) = false := beq_eq_false_iff_ne.mpr c57
    have c57b1 : (t275.toList != ([] : List UInt8)) = true := bne_iff_ne.mpr c57
    obtain rfl := Option.some.inj H
    go_enter Tryd.func7, Tryd.ntmps7
    go_wp2_with (first | ((with_reducible refine gate_dst (N := 1) rfl ?_); refine box_event ?hg (N := 1) ?hd (cs := #[.int .i64 a0_0, .int .i64 a0_1, .string a0_2, .slice A0_3 l0_3.length c0_3]) (t := 26) ?hr ?_; (case hd => rfl); (case hg => rfl); (case hr => first | (go_simp; done) | (go_simp; rfl)); intro gb272 hg w65 hbox hb; have n0_ := Aside0.mk (below_step (by repeat (first | (with_reducible first | exact HB.out | apply below_alloc | apply pw_below_drewN | apply below_drew1) | exact HB.out)) hb); have n1_ := Aside0.mk (hbox); have n2_ := Aside0.mk ((by rw [hg]; exact (below_size (by repeat (first | (with_reducible first | exact HB.out | apply below_alloc | apply pw_below_drewN | apply below_drew1) | exact HB.out))) : w.heap.size ≤ gb272)); have n3_ := Aside0.mk ((by rw [hg]; exact (below_size (by repeat (first | (with_reducible first | exact HB.out | apply below_alloc | apply pw_below_drewN | apply below_drew1) | exact HB.out))) : w.heap.size ≤ gb272)); clear HB; have HB := n0_; have BK272 := n1_; have GW272 := n2_; have GE272 := n3_; clear n0_ n1_ n2_ n3_; clear hb hbox hg; have hcz66_0 : w65.cell? ⟨gb272, 0, none⟩ = some (.int .i64 a0_0) := (blk_cell BK272.out 0).trans rfl; have hcz66_1 : w65.cell? ⟨gb272, 1, none⟩ = some (.int .i64 a0_1) := (blk_cell BK272.out 1).trans rfl; have hcz66_2 : w65.cell? ⟨gb272, 2, none⟩ = some (.string a0_2) := (blk_cell BK272.out 2).trans rfl; have hcz66_3 : w65.cell? ⟨gb272, 3, none⟩ = some (.slice A0_3 l0_3.length c0_3) := (blk_cell BK272.out 3).trans rfl; have hfz66_0 := blk_frozen BK272.out 0; have hfz66_1 := blk_frozen BK272.out 1; have hfz66_2 := blk_frozen BK272.out 2; have hfz66_3 := blk_frozen BK272.out 3) | ((with_reducible refine gate_callee (f := 21) rfl ?_); refine goesL_ (some 9) rfl rfl Tryd.func21 (by kernel_rfl) rfl #[.agg #[.int .i64 a0_0, .int .i64 a0_1, .string a0_2, .slice A0_3 l0_3.length c0_3], .int .i64 60] rfl (by (try simp only [List.map_toArray, List.map_cons, List.map_nil]); first | done | rfl | (simp only [List.length_drop, List.length_take]; rfl)) ?_; (with_reducible refine (jobshellref05_Small.calls k a0_0 a0_1 a0_2 _ _ l0_3 60 true _ ?side1 ?side2 A2.out).mono ?_); (case side1 => repeat (first | exact (Kd.C_below HR0_3.out HB.out) | (with_reducible refine Kd.C_alloc ?_ _) | (with_reducible refine Kd.C_drewN ?_ _) | (with_reducible refine Kd.C_drew ?_))); (case side2 => exact HC0_3.out); rintro e w67 ⟨rfl, hb⟩; refine ⟨_, rfl, ?_⟩; have n0_ := Aside0.mk (blk_below (g := gb272) (o := .cells #[.int .i64 a0_0, .int .i64 a0_1, .string a0_2, .slice A0_3 l0_3.length c0_3] 26 (0, 0)) (by (with_reducible repeat (first | refine blk_drewN ?_ _ | refine blk_drew ?_ | refine blk_alloc ?_ _)); exact BK272.out) hb); have n1_ := Aside0.mk (below_step (by repeat (first | (with_reducible first | exact HB.out | apply below_alloc | apply pw_below_drewN | apply below_drew1 | refine below_set ?_ GE272.out) | exact HB.out)) hb); clear BK272; clear HB; have BK272 := n0_; have HB := n1_; clear n0_ n1_; (try clear hb); (try clear hb2); (try clear hk); (try clear hi); have hcz68_0 : w67.cell? ⟨gb272, 0, none⟩ = some (.int .i64 a0_0) := (blk_cell BK272.out 0).trans rfl; have hcz68_1 : w67.cell? ⟨gb272, 1, none⟩ = some (.int .i64 a0_1) := (blk_cell BK272.out 1).trans rfl; have hcz68_2 : w67.cell? ⟨gb272, 2, none⟩ = some (.string a0_2) := (blk_cell BK272.out 2).trans rfl; have hcz68_3 : w67.cell? ⟨gb272, 3, none⟩ = some (.slice A0_3 l0_3.length c0_3) := (blk_cell BK272.out 3).trans rfl; have hfz68_0 := blk_frozen BK272.out 0; have hfz68_1 := blk_frozen BK272.out 1; have hfz68_2 := blk_frozen BK272.out 2; have hfz68_3 := blk_frozen BK272.out 3) | ((with_reducible refine gate_callee (f := 22) rfl ?_); refine goesL_ (some 14) rfl rfl Tryd.func22 (by kernel_rfl) rfl #[.agg #[.int .i64 a0_0, .int .i64 a0_1, .string a0_2, .slice A0_3 l0_3.length c0_3]] rfl (by (try simp only [List.map_toArray, List.map_cons, List.map_nil]); first | done | rfl | (simp only [List.length_drop, List.length_take]; rfl)) ?_; (with_reducible refine (arith_Show.calls k a0_0 a0_1 a0_2 _ _ l0_3 t275 t276 _ ?side1 ?side2 A4.out).mono ?_); (case side1 => repeat (first | exact (Kd.C_below HR0_3.out HB.out) | (with_reducible refine Kd.C_alloc ?_ _) | (with_reducible refine Kd.C_drewN ?_ _) | (with_reducible refine Kd.C_drew ?_))); (case side2 => exact HC0_3.out); rintro e w69 ⟨rfl, hb⟩; refine ⟨_, rfl, ?_⟩; have n0_ := Aside0.mk (blk_below (g := gb272) (o := .cells #[.int .i64 a0_0, .int .i64 a0_1, .string a0_2, .slice A0_3 l0_3.length c0_3] 26 (0, 0)) (by (with_reducible repeat (first | refine blk_drewN ?_ _ | refine blk_drew ?_ | refine blk_alloc ?_ _)); exact BK272.out) hb); have n1_ := Aside0.mk (below_step (by repeat (first | (with_reducible first | exact HB.out | apply below_alloc | apply pw_below_drewN | apply below_drew1 | refine below_set ?_ GE272.out) | exact HB.out)) hb); clear BK272; clear HB; have BK272 := n0_; have HB := n1_; clear n0_ n1_; (try clear hb); (try clear hb2); (try clear hk); (try clear hi)))
    go_ret
    exact ⟨by first | rfl | (simp [errW_none, errW_some] <;> rfl) | (simp [*, errW_none, errW_some] <;> rfl), by repeat (first | (with_reducible first | exact HB.out | apply below_alloc | apply pw_below_drewN | apply below_drew1 | refine below_set ?_ GE272.out) | exact HB.out)⟩
 ·replace c3 := Bool.eq_false_iff.mpr c3
  subst c3
  have H1 : ((jobshelllaw05_awake.f k).bind fun t274 => (some t274)) = some r := by rw [if_neg (show ¬ (false = true) by decide)] at H; exact H
  clear H
  have H := H1
  clear H1
  replace H := Option.bind_eq_some_iff.mp H
  obtain ⟨t274, A700, H⟩ := H
  replace H : (some t274) = some r := H
  have A70 := Aside0.mk A700
  clear A700
  obtain rfl := Option.some.inj H
  go_enter Tryd.func7, Tryd.ntmps7
  go_wp2_with (first | ((with_reducible refine gate_dst (N := 1) rfl ?_); refine box_event ?hg (N := 1) ?hd (cs := #[.int .i64 a0_0, .int .i64 a0_1, .string a0_2, .slice A0_3 l0_3.length c0_3]) (t := 26) ?hr ?_; (case hd => rfl); (case hg => rfl); (case hr => first | (go_simp; done) | (go_simp; rfl)); intro gb272 hg w71 hbox hb; have n0_ := Aside0.mk (below_step (by repeat (first | (with_reducible first | exact HB.out | apply below_alloc | apply pw_below_drewN | apply below_drew1) | exact HB.out)) hb); have n1_ := Aside0.mk (hbox); have n2_ := Aside0.mk ((by rw [hg]; exact (below_size (by repeat (first | (with_reducible first | exact HB.out | apply below_alloc | apply pw_below_drewN | apply below_drew1) | exact HB.out))) : w.heap.size ≤ gb272)); have n3_ := Aside0.mk ((by rw [hg]; exact (below_size (by repeat (first | (with_reducible first | exact HB.out | apply below_alloc | apply pw_below_drewN | apply below_drew1) | exact HB.out))) : w.heap.size ≤ gb272)); clear HB; have HB := n0_; have BK272 := n1_; have GW272 := n2_; have GE272 := n3_; clear n0_ n1_ n2_ n3_; clear hb hbox hg; have hcz72_0 : w71.cell? ⟨gb272, 0, none⟩ = some (.int .i64 a0_0) := (blk_cell BK272.out 0).trans rfl; have hcz72_1 : w71.cell? ⟨gb272, 1, none⟩ = some (.int .i64 a0_1) := (blk_cell BK272.out 1).trans rfl; have hcz72_2 : w71.cell? ⟨gb272, 2, none⟩ = some (.string a0_2) := (blk_cell BK272.out 2).trans rfl; have hcz72_3 : w71.cell? ⟨gb272, 3, none⟩ = some (.slice A0_3 l0_3.length c0_3) := (blk_cell BK272.out 3).trans rfl; have hfz72_0 := blk_frozen BK272.out 0; have hfz72_1 := blk_frozen BK272.out 1; have hfz72_2 := blk_frozen BK272.out 2; have hfz72_3 := blk_frozen BK272.out 3) | ((with_reducible refine gate_callee (f := 21) rfl ?_); refine goesL_ (some 9) rfl rfl Tryd.func21 (by kernel_rfl) rfl #[.agg #[.int .i64 a0_0, .int .i64 a0_1, .string a0_2, .slice A0_3 l0_3.length c0_3], .int .i64 60] rfl (by (try simp only [List.map_toArray, List.map_cons, List.map_nil]); first | done | rfl | (simp only [List.length_drop, List.length_take]; rfl)) ?_; (with_reducible refine (jobshellref05_Small.calls k a0_0 a0_1 a0_2 _ _ l0_3 60 false _ ?side1 ?side2 A2.out).mono ?_); (case side1 => repeat (first | exact (Kd.C_below HR0_3.out HB.out) | (with_reducible refine Kd.C_alloc ?_ _) | (with_reducible refine Kd.C_drewN ?_ _) | (with_reducible refine Kd.C_drew ?_))); (case side2 => exact HC0_3.out); rintro e w73 ⟨rfl, hb⟩; refine ⟨_, rfl, ?_⟩; have n0_ := Aside0.mk (blk_below (g := gb272) (o := .cells #[.int .i64 a0_0, .int .i64 a0_1, .string a0_2, .slice A0_3 l0_3.length c0_3] 26 (0, 0)) (by (with_reducible repeat (first | refine blk_drewN ?_ _ | refine blk_drew ?_ | refine blk_alloc ?_ _)); exact BK272.out) hb); have n1_ := Aside0.mk (below_step (by repeat (first | (with_reducible first | exact HB.out | apply below_alloc | apply pw_below_drewN | apply below_drew1 | refine below_set ?_ GE272.out) | exact HB.out)) hb); clear BK272; clear HB; have BK272 := n0_; have HB := n1_; clear n0_ n1_; (try clear hb); (try clear hb2); (try clear hk); (try clear hi)) | ((with_reducible refine gate_callee (f := 17) rfl ?_); refine goesL_ (some 11) rfl rfl Tryd.func17 (by kernel_rfl) rfl #[] rfl (by (try simp only [List.map_toArray, List.map_cons, List.map_nil]); first | done | rfl | (simp only [List.length_drop, List.length_take]; rfl)) ?_; (with_reducible refine (jobshelllaw05_awake.calls k  t274 _ A70.out).mono ?_); rintro e w74 ⟨rfl, hb⟩; refine ⟨_, rfl, ?_⟩; have n0_ := Aside0.mk (blk_below (g := gb272) (o := .cells #[.int .i64 a0_0, .int .i64 a0_1, .string a0_2, .slice A0_3 l0_3.length c0_3] 26 (0, 0)) (by (with_reducible repeat (first | refine blk_drewN ?_ _ | refine blk_drew ?_ | refine blk_alloc ?_ _)); exact BK272.out) hb); have n1_ := Aside0.mk (below_step (by repeat (first | (with_reducible first | exact HB.out | apply below_alloc | apply pw_below_drewN | apply below_drew1 | refine below_set ?_ GE272.out) | exact HB.out)) hb); clear BK272; clear HB; have BK272 := n0_; have HB := n1_; clear n0_ n1_; (try clear hb); (try clear hb2); (try clear hk); (try clear hi)))
  go_ret
  exact ⟨by first | rfl | (simp [errW_none, errW_some] <;> rfl) | (simp [*, errW_none, errW_some] <;> rfl), by repeat (first | (with_reducible first | exact HB.out | apply below_alloc | apply pw_below_drewN | apply below_drew1 | refine below_set ?_ GE272.out) | exact HB.out)⟩
end Go.Proofs.YtglmdfddgmkmaaaDoor.Q
end
section
namespace Go.Proofs.YtglmdfddgmkmaaaDoor.Q
open Go.RowKit Go.Proofs.YtglmdfddgmkmaaaDoorW.PrintWords
set_option linter.unusedVariables false
set_option linter.unusedSimpArgs false
abbrev sl (s : ByteArray) : List UInt8 := s.data.toList
def blkB (b : UInt8) : Bool := isBl (b.toNat : Int)
def wrdB (b : UInt8) : Bool := arith_wordByte.f (b.toNat : Int) == some true
def oprB (l : List UInt8) : Bool := arith_operator.f ⟨l.toArray⟩ == some true
def opL (r : List UInt8) : Nat → Nat
 | 0 => 0
 | k + 1 => if k = 0 ∨ oprB (r.take (k + 1)) = true then k + 1 else opL r k
def lexN (r : List UInt8) : Nat := if (r.takeWhile wrdB).length = 0 then opL r (min 3 r.length) else (r.takeWhile wrdB).length
def tk (L : List UInt8) : ByteArray := ⟨(L.take (lexN L)).toArray⟩
def nx (L : List UInt8) : List UInt8 := (L.drop (lexN L)).dropWhile blkB
theorem sl_length (s : ByteArray) : (sl s).length = s.size := rfl
theorem sl_bt (s : ByteArray) (i : Nat) (h : i < s.size) : bt s (i : Int) = (((sl s)[i]'h).toNat : Int) := by
 unfold bt
 rw [dif_pos (show (i : Int).toNat < s.size by omega)]
 rfl
theorem drop_cons (s : ByteArray) (i : Nat) (h : i < s.size) : ∃ b, (sl s).drop i = b :: (sl s).drop (i + 1) ∧ bt s (i : Int) = (b.toNat : Int) :=
 ⟨_, List.drop_eq_getElem_cons h, sl_bt s i h⟩
theorem skipN_list (s : ByteArray) : ∀ f i, i + f = s.size → skipN s f i = i + (((sl s).drop i).takeWhile blkB).length
 | 0, i, h => by
  rw [List.drop_eq_nil_of_le (by rw [sl_length]; omega)]
  rfl
 | f + 1, i, h => by
  obtain ⟨b, hb, hv⟩ := drop_cons s i (by omega)
  rw [skipN, hb, List.takeWhile_cons, hv, skipN_list s f (i + 1) (by omega)]
  unfold blkB
  cases isBl (b.toNat : Int)
  ·simp
  ·simp [show i < s.size by omega]
   omega
theorem wordN_list (s : ByteArray) : ∀ f i, i + f = s.size → wordN s f i = i + (((sl s).drop i).takeWhile wrdB).length
 | 0, i, h => by
  rw [List.drop_eq_nil_of_le (by rw [sl_length]; omega)]
  rfl
 | f + 1, i, h => by
  obtain ⟨b, hb, hv⟩ := drop_cons s i (by omega)
  rw [wordN, hb, List.takeWhile_cons, hv, wordN_list s f (i + 1) (by omega)]
  unfold wrdB
  by_cases hw : arith_wordByte.f (b.toNat : Int) = some true
  ·simp [show i < s.size by omega, hw]
   omega
  ·simp [hw]
theorem skipB_list (s : ByteArray) (i : Nat) (h : i ≤ s.size) : skipB s i = i + (((sl s).drop i).takeWhile blkB).length := skipN_list s _ i (by omega)
theorem extract_list (s : ByteArray) (i j : Nat) : s.extract i j = ⟨(((sl s).drop i).take (j - i)).toArray⟩ := by
 apply ByteArray.ext
 rw [ByteArray.data_extract, ← Array.toArray_toList (xs := s.data.extract i j), Array.toList_extract]
theorem opK_list (r : ByteArray) : ∀ k n, opK r k n = if n = 0 then opL (sl r) k else n
 | 0, n => by
  simp only [opK, opL]
  split <;> simp_all
 | k + 1, n => by
  simp only [opK, opL]
  split
  ·rw [opK_list r k, extract_list]
   simp only [List.drop_zero, Nat.sub_zero, oprB, beq_iff_eq]
   by_cases hc : k = 0 ∨ arith_operator.f ⟨((sl r).take (k + 1)).toArray⟩ = some true
   ·rw [if_pos hc, if_neg (by omega), if_pos hc]
   ·rw [if_neg hc, if_pos rfl, if_neg hc]
  ·rfl
theorem tokN_list (r : ByteArray) : tokN r = lexN (sl r) := by
 unfold tokN lexN wordB
 rw [opK_list, wordN_list r _ 0 (by omega)]
 simp only [List.drop_zero, Nat.zero_add]
 rfl
/-- At place p of s stands L. -/
def At (s : ByteArray) (p : Nat) (L : List UInt8) : Prop := p ≤ s.size ∧ (sl s).drop p = L
theorem At.len {s p L} (h : At s p L) : p + L.length = s.size := by
 obtain ⟨h1, rfl⟩ := h
 rw [List.length_drop, sl_length]
 omega
theorem At.adv {s p A B} (h : At s p (A ++ B)) : At s (p + A.length) B := by
 obtain ⟨h1, h2⟩ := h
 have hl := At.len ⟨h1, h2⟩
 rw [List.length_append] at hl
 exact ⟨by omega, by rw [← List.drop_drop, h2, List.drop_left]⟩
theorem lexN_le (L : List UInt8) : lexN L ≤ L.length := by
 have := tokN_le ⟨L.toArray⟩
 rw [tokN_list] at this
 exact this
theorem tk_size (L : List UInt8) : (tk L).size = lexN L := by
 have := lexN_le L
 show (L.take (lexN L)).toArray.size = _
 simp
 omega
theorem next_list {s p L} (h : At s p L) : At s (nextP s p (tk L)) (nx L) ∧ nextT s p (tk L) = tk (nx L) := by
 have hle := lexN_le L
 have h1 : At s (p + (tk L).size) (L.drop (lexN L)) := by
  have h2 := At.adv (A := L.take (lexN L)) (B := L.drop (lexN L)) (by rw [List.take_append_drop]; exact h)
  rw [List.length_take, Nat.min_eq_left hle] at h2
  rw [tk_size]
  exact h2
 have h2 : At s (nextP s p (tk L)) (nx L) := by
  unfold nextP
  rw [skipB_list s _ h1.1, h1.2]
  have h3 := At.adv (A := (L.drop (lexN L)).takeWhile blkB) (B := nx L) (by unfold nx; rw [List.takeWhile_append_dropWhile]; exact h1)
  exact h3
 refine ⟨h2, ?_⟩
 unfold nextT
 rw [tokN_list]
 have e : s.extract (nextP s p (tk L)) s.size = ⟨(nx L).toArray⟩ := by
  rw [extract_list, h2.2]
  have := h2.len
  rw [List.take_of_length_le (by omega)]
 rw [e, extract_list]
 simp only [sl, List.drop_zero, Nat.sub_zero]
 rfl
theorem lexN_pos {L : List UInt8} (h : L ≠ []) : 0 < lexN L := by
 unfold lexN
 split
 ·have : ∃ k, min 3 L.length = k + 1 := ⟨min 3 L.length - 1, by have := List.length_pos_iff.mpr h; omega⟩
  obtain ⟨k, hk⟩ := this
  rw [hk]
  clear hk
  induction k with
  | zero => simp [opL]
  | succ k ih =>
   rw [opL]
   split
   ·omega
   ·exact ih
 ·omega
def opsL : List (List UInt8) := [[60,60,61],[62,62,61],[60,60],[62,62],[60,61],[62,61],[61,61],[33,61],[38,38],[124,124],[43,61],[45,61],[42,61],[47,61],[37,61],[38,61],[94,61],[124,61]]
theorem opr_mem {l : List UInt8} (h : oprB l = true) : l ∈ opsL := by
 refine Classical.byContradiction fun hm => ?_
 unfold oprB arith_operator.f at h
 rw [Go.ByteArray.toList_eq] at h
 simp only [opsL, List.mem_cons, List.not_mem_nil, or_false, not_or] at hm
 simp [hm] at h
theorem tkNil : tk [] = ⟨#[]⟩ := by rfl
theorem bi0 : arith_binary.f ⟨#[]⟩ = some (0, 0) := by kernel_rfl
theorem bi41 : arith_binary.f ⟨#[41]⟩ = some (0, 0) := by kernel_rfl
theorem as0 : arith_assignment.f 1 ⟨#[]⟩ = some (0, false) := by kernel_rfl
theorem as41 : arith_assignment.f 1 ⟨#[41]⟩ = some (0, false) := by kernel_rfl
/-- Behind the blanks. -/
def nb (L : List UInt8) : Prop := ∀ b ∈ L.head?, blkB b = false
/-- Something that is no blank stands before p. -/
def Nb (s : ByteArray) (p : Nat) : Prop := ∃ i, i < p ∧ isBl (bt s i) = false
theorem Nb.mono {s : ByteArray} {p q : Nat} (h : Nb s p) (hpq : p ≤ q) : Nb s q := by
 obtain ⟨i, h1, h2⟩ := h
 exact ⟨i, by omega, h2⟩
/-- What the longer text may give where the shorter one ended too soon. -/
def En (s : ByteArray) (r : PRes) : Prop := (∃ y, r = some (.ok (y, s.size + 2, ⟨#[]⟩))) ∨ ∃ q, s.size < q ∧ r = some (.error (q, 6))
def Rr (s : ByteArray) (a b : PRes) : Prop :=
 match a with
 | none => True
 | some (.ok (x, p, t)) => ∃ L, At s p L ∧ nb L ∧ t = tk L ∧ Nb s p ∧ b = some (.ok (x, p + 1, tk (L ++ [41])))
 | some (.error (q, e)) => (q < s.size ∧ b = some (.error (q + 1, e))) ∨ (q = s.size ∧ e = 6 ∧ En s b)
theorem Rr.bind {s : ByteArray} {a b : PRes} {f g : S26 → Nat → ByteArray → PRes} (h : Rr s a b) (hf : ∀ x p L, At s p L → nb L → Nb s p → Rr s (f x p (tk L)) (g x (p + 1) (tk (L ++ [41])))) (hg : ∀ y, (∃ e, a = some e) → En s (g y (s.size + 2) ⟨#[]⟩)) : Rr s (ebind a f) (ebind b g) := by
 match a, h with
 | none, _ => exact True.intro
 | some (.ok (x, p, t)), h =>
  obtain ⟨L, h1, h2, rfl, h3, rfl⟩ := h
  exact hf x p L h1 h2 h3
 | some (.error (q, e)), h =>
  rcases h with ⟨h1, rfl⟩ | ⟨rfl, rfl, h2⟩
  ·exact .inl ⟨h1, rfl⟩
  ·refine .inr ⟨rfl, rfl, ?_⟩
   rcases h2 with ⟨y, rfl⟩ | ⟨q, h3, rfl⟩
   ·exact hg y ⟨_, rfl⟩
   ·exact .inr ⟨q, h3, rfl⟩
end Go.Proofs.YtglmdfddgmkmaaaDoor.Q
end
section
namespace Go.Proofs.YtglmdfddgmkmaaaDoor.Q
open Go.RowKit Go.Proofs.YtglmdfddgmkmaaaDoorW.PrintWords
set_option linter.unusedVariables false
set_option linter.unusedSimpArgs false
theorem pr_up (s : ByteArray) {k n : Nat} (h : k ≤ n) {gl p t r} (hr : pr s k gl p t = some r) : pr s n gl p t = some r := by
 induction h with
 | refl => exact hr
 | step _ ih => exact pr_mono s _ _ _ _ _ ih
/-- The place of a suffix. -/
def pl (s : ByteArray) (L : List UInt8) : Nat := s.size - L.length
def okL (s : ByteArray) (x : S26) (L : List UInt8) : Except (Nat × Int) (S26 × Nat × ByteArray) := .ok (x, pl s L, tk L)
/-- From the suffix L on, the goal gl gives r. -/
def E (s : ByteArray) (gl : Gl) (L : List UInt8) (r : Except (Nat × Int) (S26 × Nat × ByteArray)) : Prop := ∃ k, pr s k gl (pl s L) (tk L) = some r
theorem pl_at {s L} (h : L <:+ sl s) : At s (pl s L) L := by
 obtain ⟨A, hA⟩ := h
 have hl : A.length + L.length = s.size := by rw [← List.length_append, hA]; rfl
 have e : pl s L = A.length := by unfold pl; omega
 refine ⟨by omega, ?_⟩
 rw [e, ← hA, List.drop_left]
theorem next_pl {s L} (h : L <:+ sl s) : nextP s (pl s L) (tk L) = pl s (nx L) ∧ nextT s (pl s L) (tk L) = tk (nx L) := by
 obtain ⟨h1, h2⟩ := next_list (pl_at h)
 refine ⟨?_, h2⟩
 have h3 := h1.len
 unfold pl at *
 omega
section
variable {s : ByteArray}
theorem E.level13 {L r} (h : E s .operand L r) : E s (.level 13) L r := by
 obtain ⟨k, hk⟩ := h
 exact ⟨k + 1, by rw [pr, if_pos rfl]; exact hk⟩
theorem E.level {n L x U r} (hn : n ≠ 13) (h : E s (.level (n + 1)) L (okL s x U)) (h2 : E s (.more n x) U r) : E s (.level n) L r := by
 obtain ⟨k, hk⟩ := h
 obtain ⟨j, hj⟩ := h2
 refine ⟨k + j + 1, ?_⟩
 rw [pr, if_neg hn, pr_up s (show k ≤ k + j by omega) hk]
 exact pr_up s (show j ≤ k + j by omega) hj
theorem E.more_stop {n : Nat} {x L o l} (h : arith_binary.f (tk L) = some (o, l)) (hl : l ≠ (n : Int)) : E s (.more n x) L (okL s x L) :=
 ⟨1, by rw [pr, h]; simp only; rw [if_neg hl]; rfl⟩
theorem E.more_go {n : Nat} {x L o y U r} (hS : L <:+ sl s) (h : arith_binary.f (tk L) = some (o, (n : Int))) (h1 : E s (.level (n + 1)) (nx L) (okL s y U)) (h2 : E s (.more n ⟨o, 0, noName, [x, y]⟩) U r) : E s (.more n x) L r := by
 obtain ⟨k, hk⟩ := h1
 obtain ⟨j, hj⟩ := h2
 obtain ⟨e1, e2⟩ := next_pl hS
 refine ⟨k + j + 1, ?_⟩
 rw [pr, h]
 simp only
 rw [if_pos trivial, e1, e2, pr_up s (show k ≤ k + j by omega) hk]
 exact pr_up s (show j ≤ k + j by omega) hj
theorem E.second_stop {L x U} (h : E s (.level 3) L (okL s x U)) (hq : ¬ (tk U).toList = [63]) : E s .second L (okL s x U) := by
 obtain ⟨k, hk⟩ := h
 refine ⟨k + 1, ?_⟩
 rw [pr, hk]
 show (if (tk U).toList = [63] then _ else _) = _
 rw [if_neg hq]
 rfl
theorem E.second_go {L x U y V z W} (hU : U <:+ sl s) (hV : V <:+ sl s) (h : E s (.level 3) L (okL s x U)) (hq : (tk U).toList = [63]) (h1 : E s .first (nx U) (okL s y V)) (hc : (tk V).toList = [58]) (h2 : E s .second (nx V) (okL s z W)) : E s .second L (okL s ⟨25, 0, noName, [x, y, z]⟩ W) := by
 obtain ⟨k, hk⟩ := h
 obtain ⟨i, hi⟩ := h1
 obtain ⟨j, hj⟩ := h2
 obtain ⟨e1, e2⟩ := next_pl hU
 obtain ⟨e3, e4⟩ := next_pl hV
 refine ⟨k + i + j + 1, ?_⟩
 rw [pr, pr_up s (show k ≤ k + i + j by omega) hk]
 show (if (tk U).toList = [63] then _ else _) = _
 rw [if_pos hq, e1, e2, pr_up s (show i ≤ k + i + j by omega) hi]
 show (if (tk V).toList = [58] then _ else _) = _
 rw [if_pos hc, e3, e4, pr_up s (show j ≤ k + i + j by omega) hj]
 rfl
theorem E.first_stop {L x U o b} (h : E s .second L (okL s x U)) (ha : arith_assignment.f 1 (tk U) = some (o, b)) (hb : b = true → x.f0 = 2 → bareN s (pl s U) = true → False) : E s .first L (okL s x U) := by
 obtain ⟨k, hk⟩ := h
 refine ⟨k + 1, ?_⟩
 rw [pr, hk]
 simp only [ebind, okL]
 rw [ha]
 simp only
 rw [if_neg (fun h => hb h.1 h.2.1 h.2.2)]
theorem E.first_go {L x U o y V} (hU : U <:+ sl s) (h : E s .second L (okL s x U)) (ha : arith_assignment.f 1 (tk U) = some (o, true)) (hx : x.f0 = 2) (hb : bareN s (pl s U) = true) (h1 : E s .first (nx U) (okL s y V)) : E s .first L (okL s ⟨26, o, x.f2, [y]⟩ V) := by
 obtain ⟨k, hk⟩ := h
 obtain ⟨j, hj⟩ := h1
 obtain ⟨e1, e2⟩ := next_pl hU
 refine ⟨k + j + 1, ?_⟩
 rw [pr, pr_up s (show k ≤ k + j by omega) hk]
 simp only [ebind, okL]
 rw [ha]
 simp only
 rw [if_pos ⟨trivial, hx, hb⟩, e1, e2, pr_up s (show j ≤ k + j by omega) hj]
 rfl
theorem E.sign {L o y U} (hL : L <:+ sl s) (h : arith_unary.f (tk L) = some o) (ho : o ≠ 0) (h1 : E s .operand (nx L) (okL s y U)) : E s .operand L (okL s ⟨o, 0, noName, [y]⟩ U) := by
 obtain ⟨k, hk⟩ := h1
 obtain ⟨e1, e2⟩ := next_pl hL
 refine ⟨k + 1, ?_⟩
 rw [pr, h]
 simp only
 rw [if_pos ho, e1, e2, hk]
 rfl
theorem E.paren {L y U} (hL : L <:+ sl s) (hU : U <:+ sl s) (h : arith_unary.f (tk L) = some 0) (hp : (tk L).toList = [40]) (h1 : E s .first (nx L) (okL s y U)) (hc : (tk U).toList = [41]) : E s .operand L (okL s y (nx U)) := by
 obtain ⟨k, hk⟩ := h1
 obtain ⟨e1, e2⟩ := next_pl hL
 obtain ⟨e3, e4⟩ := next_pl hU
 refine ⟨k + 1, ?_⟩
 rw [pr, h]
 simp only
 rw [if_neg (by simp), if_pos hp, e1, e2, hk]
 show (if (tk U).toList = [41] then _ else _) = _
 rw [if_pos hc, e3, e4]
 rfl
theorem E.num {L n} (hL : L <:+ sl s) (h : arith_unary.f (tk L) = some 0) (hp : ¬ (tk L).toList = [40]) (h0 : (tk L).size ≠ 0) (hw : arith_wordByte.f (bt (tk L) 0) = some true) (hd : arith_digit.f (bt (tk L) 0) = some true) (hn : arith_number.f ((tk L).size + 3) (tk L) = some (n, 0)) : E s .operand L (okL s ⟨1, n, noName, []⟩ (nx L)) := by
 obtain ⟨e1, e2⟩ := next_pl hL
 refine ⟨1, ?_⟩
 rw [pr, h]
 simp only
 rw [if_neg (by simp), if_neg hp, if_neg (by rintro (h | h); exact h0 h; exact h hw), if_pos hd, hn]
 simp only
 rw [if_pos trivial, e1, e2]
 rfl
theorem E.name {L} (hL : L <:+ sl s) (h : arith_unary.f (tk L) = some 0) (hp : ¬ (tk L).toList = [40]) (h0 : (tk L).size ≠ 0) (hw : arith_wordByte.f (bt (tk L) 0) = some true) (hd : ¬ arith_digit.f (bt (tk L) 0) = some true) (hn : nameB (tk L) = true) : E s .operand L (okL s ⟨2, 0, tk L, []⟩ (nx L)) := by
 obtain ⟨e1, e2⟩ := next_pl hL
 refine ⟨1, ?_⟩
 rw [pr, h]
 simp only
 rw [if_neg (by simp), if_neg hp, if_neg (by rintro (h | h); exact h0 h; exact h hw), if_neg hd, if_pos hn, e1, e2]
 rfl
/-- An operator of a level below n, or none, stands at U. -/
def Lo (n : Nat) (U : List UInt8) : Prop := ∃ o l, arith_binary.f (tk U) = some (o, l) ∧ l < (n : Int)
theorem Lo.mono {n m U} (h : Lo n U) (hnm : n ≤ m) : Lo m U := by
 obtain ⟨o, l, h1, h2⟩ := h
 exact ⟨o, l, h1, by omega⟩
/-- From a level down to a lower one. -/
theorem E.down {L x U h0} (h : E s (.level h0) L (okL s x U)) (h13 : h0 ≤ 13) : ∀ (d n : Nat), n + d = h0 → Lo n U → E s (.level n) L (okL s x U)
 | 0, n, hn, _ => by
  obtain rfl : n = h0 := by omega
  exact h
 | d + 1, n, hn, hf => by
  obtain ⟨o, l, h1, h2⟩ := hf
  exact E.level (by omega) (E.down h h13 d (n + 1) (by omega) ⟨o, l, h1, by omega⟩) (E.more_stop h1 (by omega))
theorem E.lift {L x U} (h : E s .operand L (okL s x U)) (n : Nat) (hn : n ≤ 13) (hf : Lo n U) : E s (.level n) L (okL s x U) := E.down h.level13 (Nat.le_refl _) (13 - n) n (by omega) hf
/-- An operand, and what follows it on the level n. -/
theorem E.lift_more {L x U} (h : E s .operand L (okL s x U)) (n : Nat) (hn : n ≤ 12) (hf : Lo (n + 1) U) {r} (hr : E s (.more n x) U r) : E s (.level n) L r :=
 E.level (by omega) (h.lift (n + 1) (by omega) hf) hr
end
theorem opr_byte {l : List UInt8} (h : oprB l = true) {b : UInt8} (hb : b ∈ l) : b ∈ ([60, 62, 61, 33, 38, 124, 43, 45, 42, 47, 37, 94] : List UInt8) := by
 have hm := opr_mem h
 have : ∀ l ∈ opsL, ∀ b ∈ l, b ∈ ([60, 62, 61, 33, 38, 124, 43, 45, 42, 47, 37, 94] : List UInt8) := by decide
 exact this l hm b hb
theorem opr_sign {u b : UInt8} {l : List UInt8} (hu : u ∈ ([45, 43, 33, 126] : List UInt8)) (h : oprB (u :: b :: l) = true) : b = 61 := by
 have hm := opr_mem h
 have : ∀ l ∈ opsL, ∀ u ∈ ([45, 43, 33, 126] : List UInt8), l.head? = some u → l[1]? = some 61 := by decide
 have := this _ hm u hu rfl
 simpa using this
theorem takeWhile_app {f : UInt8 → Bool} : ∀ {w rest : List UInt8}, (∀ b ∈ w, f b = true) → (∀ b ∈ rest.head?, f b = false) → (w ++ rest).takeWhile f = w
 | [], [], _, _ => rfl
 | [], b :: rest, _, h => by
  have := h b rfl
  simp [List.takeWhile_cons, this]
 | a :: w, rest, h, h2 => by
  rw [List.cons_append, List.takeWhile_cons, if_pos (h a (by simp)), takeWhile_app (fun b hb => h b (by simp [hb])) h2]
theorem lex_of {w rest : List UInt8} (h : lexN (w ++ rest) = w.length) : tk (w ++ rest) = ⟨w.toArray⟩ ∧ nx (w ++ rest) = rest.dropWhile blkB := by
 unfold tk nx
 rw [h, List.take_left, List.drop_left]
 exact ⟨rfl, rfl⟩
theorem lex_word {w rest : List UInt8} (h0 : w ≠ []) (hw : ∀ b ∈ w, wrdB b = true) (hr : ∀ b ∈ rest.head?, wrdB b = false) : lexN (w ++ rest) = w.length := by
 unfold lexN
 rw [takeWhile_app hw hr, if_neg]
 have := List.length_pos_iff.mpr h0
 omega
theorem opL_stop (L : List UInt8) (n : Nat) (hn : 1 ≤ n) (hop : n = 1 ∨ oprB (L.take n) = true) : ∀ k, n ≤ k → (∀ m, n < m → m ≤ k → oprB (L.take m) = false) → opL L k = n
 | 0, hk, _ => by omega
 | k + 1, hk, hno => by
  rw [opL]
  rcases Nat.lt_or_ge k n with h | h
  ·obtain rfl : k + 1 = n := by omega
   rw [if_pos]
   rcases hop with h | h
   ·exact .inl (by omega)
   ·exact .inr h
  ·rw [if_neg, opL_stop L n hn hop k h (fun m h1 h2 => hno m h1 (by omega))]
   rw [hno (k + 1) (by omega) (Nat.le_refl _)]
   simp
   omega
theorem lex_op {w rest : List UInt8} (h0 : w ≠ []) (h3 : w.length ≤ 3) (hw : ∀ b ∈ w.head?, wrdB b = false) (hop : w.length = 1 ∨ oprB w = true) (hno : ∀ m, w.length < m → m ≤ (w ++ rest).length → m ≤ 3 → oprB ((w ++ rest).take m) = false) : lexN (w ++ rest) = w.length := by
 obtain ⟨c, w, rfl⟩ := List.exists_cons_of_ne_nil h0
 have hc : wrdB c = false := hw c rfl
 have e : (c :: w ++ rest).takeWhile wrdB = [] := by
  rw [List.cons_append, List.takeWhile_cons, hc]
  rfl
 unfold lexN
 rw [e, if_pos List.length_nil]
 refine opL_stop _ _ (by simp) ?_ _ ?_ ?_
 ·rcases hop with h | h
  ·exact .inl h
  ·rw [List.take_left]
   exact .inr h
 ·simp only [List.length_cons, List.length_append] at *
  omega
 ·intro m h1 h2
  exact hno m h1 (by omega) (by omega)
/-- An operator before a byte that stands in none. -/
theorem lex_op_then {w rest : List UInt8} {b : UInt8} (h0 : w ≠ []) (h3 : w.length ≤ 3) (hw : ∀ b ∈ w.head?, wrdB b = false) (hop : w.length = 1 ∨ oprB w = true) (hb : b ∉ ([60, 62, 61, 33, 38, 124, 43, 45, 42, 47, 37, 94] : List UInt8)) : lexN (w ++ b :: rest) = w.length := by
 refine lex_op h0 h3 hw hop (fun m h1 h2 _ => ?_)
 cases h : oprB ((w ++ b :: rest).take m)
 ·rfl
 ·exact absurd (opr_byte h (b := b) (by
   obtain ⟨d, rfl⟩ : ∃ d, m = w.length + (d + 1) := ⟨m - w.length - 1, by omega⟩
   rw [List.take_length_add_append]
   simp)) hb
/-- One byte that stands in no operator. -/
theorem lex_one {c : UInt8} {rest : List UInt8} (hc : wrdB c = false) (hb : c ∉ ([60, 62, 61, 33, 38, 124, 43, 45, 42, 47, 37, 94] : List UInt8)) : lexN (c :: rest) = 1 := by
 refine lex_op (w := [c]) (by simp) (by simp) (fun b h => by simp at h; exact h ▸ hc) (.inl rfl) (fun m h1 h2 _ => ?_)
 cases h : oprB (([c] ++ rest).take m)
 ·rfl
 ·exact absurd (opr_byte h (b := c) (by
   obtain ⟨d, rfl⟩ : ∃ d, m = d + 1 := ⟨m - 1, by simp at h1; omega⟩
   simp)) hb
/-- A sign before a byte that is no '='. -/
theorem lex_sign {u b : UInt8} {rest : List UInt8} (hu : u ∈ ([45, 43, 33, 126] : List UInt8)) (hb : b ≠ 61) : lexN (u :: b :: rest) = 1 := by
 have hw : wrdB u = false := by
  have : ∀ u ∈ ([45, 43, 33, 126] : List UInt8), wrdB u = false := by decide
  exact this u hu
 refine lex_op (w := [u]) (by simp) (by simp) (fun b h => by simp at h; exact h ▸ hw) (.inl rfl) (fun m h1 h2 _ => ?_)
 cases h : oprB (([u] ++ b :: rest).take m)
 ·rfl
 ·obtain ⟨d, rfl⟩ : ∃ d, m = d + 1 + 1 := ⟨m - 2, by simp at h1; omega⟩
  exact absurd (opr_sign (l := rest.take d) hu (by simpa using h)) hb
def itoaL (n : Int) : List UInt8 := Lib.itoa n
def sgs : List (List UInt8) := [[], [], [], [45], [43], [33], [126], [42], [47], [37], [43], [45], [60, 60], [62, 62], [60], [62], [60, 61], [62, 61], [61, 61], [33, 61], [38], [94], [124], [38, 38], [124, 124]]
def sg (op : Int) : List UInt8 := sgs.getD op.toNat []
def hgt (op : Int) : Nat := ([0, 14, 14, 13, 13, 13, 13, 12, 12, 12, 11, 11, 10, 10, 9, 9, 9, 9, 8, 8, 7, 6, 5, 4, 3, 2, 1] : List Nat).getD op.toNat 0
def nil26 : S26 := ⟨0, 0, noName, []⟩
def kid (x : S26) (i : Nat) : S26 := x.f3.getD i nil26
def asg (n : Int) : List UInt8 := (if n = 0 then [] else sg n) ++ [61]
def showL : Nat → S26 → Nat → List UInt8
 | 0, _, _ => []
 | m + 1, x, least =>
  let body := if x.f0 = 26 then sl x.f2 ++ 32 :: (asg x.f1 ++ 32 :: showL m (kid x 0) 1)
   else if x.f0 = 25 then showL m (kid x 0) 3 ++ 32 :: 63 :: 32 :: (showL m (kid x 1) 1 ++ 32 :: 58 :: 32 :: showL m (kid x 2) 2)
   else if x.f0 = 1 then itoaL x.f1
   else if x.f0 = 2 then sl x.f2
   else if x.f0 ≤ 6 then sg x.f0 ++ showL m (kid x 0) 13
   else showL m (kid x 0) (hgt x.f0) ++ 32 :: (sg x.f0 ++ 32 :: showL m (kid x 1) (hgt x.f0 + 1))
  if hgt x.f0 < least then 40 :: (body ++ [41]) else body
def asgB (n : Int) : Bool := n == 0 || (decide (7 ≤ n) && decide (n ≤ 13)) || (decide (20 ≤ n) && decide (n ≤ 22))
/-- A valid tree of at most m levels. -/
inductive V : Nat → S26 → Prop where
 | num (m : Nat) (n : Int) : 0 ≤ n → n ≤ 9223372036854775807 → V (m + 1) ⟨1, n, noName, []⟩
 | var (m : Nat) (t : ByteArray) : nameB t = true → V (m + 1) ⟨2, 0, t, []⟩
 | un (m : Nat) (op : Int) (a : S26) : 3 ≤ op → op ≤ 6 → V m a → V (m + 1) ⟨op, 0, noName, [a]⟩
 | bin (m : Nat) (op : Int) (a b : S26) : 7 ≤ op → op ≤ 24 → V m a → V m b → V (m + 1) ⟨op, 0, noName, [a, b]⟩
 | cond (m : Nat) (a b c : S26) : V m a → V m b → V m c → V (m + 1) ⟨25, 0, noName, [a, b, c]⟩
 | set (m : Nat) (n : Int) (t : ByteArray) (a : S26) : asgB n = true → nameB t = true → V m a → V (m + 1) ⟨26, n, t, [a]⟩
theorem wrd_iff (b : UInt8) : wrdB b = true ↔ ((b.toNat = 95 ∨ (97 ≤ b.toNat ∧ b.toNat ≤ 122) ∨ (65 ≤ b.toNat ∧ b.toNat ≤ 90)) ∨ (48 ≤ b.toNat ∧ b.toNat ≤ 57)) := by
 unfold wrdB arith_wordByte.f arith_digit.f
 repeat' split
 all_goals simp <;> omega
theorem blk_iff (b : UInt8) : blkB b = true ↔ (b.toNat = 32 ∨ b.toNat = 9 ∨ b.toNat = 10) := by
 unfold blkB isBl
 simp
 omega
/-- A byte that begins a shown text. -/
def good (b : UInt8) : Prop := blkB b = false ∧ b ≠ 61
theorem good_wrd {b : UInt8} (h : wrdB b = true) : good b := by
 rw [wrd_iff] at h
 refine ⟨?_, ?_⟩
 ·cases hb : blkB b
  ·rfl
  ·rw [blk_iff] at hb
   omega
 ·rintro rfl
  simp at h
theorem nameAll_at (t : ByteArray) : ∀ (f i : Nat), i + f = t.size → nameAll t f i = true → ∀ j, i ≤ j → j < t.size → nameC (bt t j) j = true
 | 0, i, h, _, j, h1, h2 => by omega
 | f + 1, i, h, hn, j, h1, h2 => by
  rw [nameAll, if_pos (by omega)] at hn
  simp only [Bool.and_eq_true] at hn
  rcases Nat.lt_or_ge i j with h3 | h3
  ·exact nameAll_at t f (i + 1) (by omega) hn.2 j h3 h2
  ·obtain rfl : i = j := by omega
   exact hn.1
theorem nameC_wrd {b : UInt8} {i : Nat} (h : nameC (b.toNat : Int) i = true) : wrdB b = true := by
 rw [wrd_iff]
 unfold nameC lett dgt at h
 simp at h
 omega
theorem name_bytes {t : ByteArray} (h : nameB t = true) : ∃ b l, sl t = b :: l ∧ (∀ b ∈ sl t, wrdB b = true) ∧ ¬ (48 ≤ b.toNat ∧ b.toNat ≤ 57) := by
 unfold nameB at h
 simp only [Bool.and_eq_true, decide_eq_true_eq] at h
 obtain ⟨⟨h0, h1⟩, h2⟩ := h
 have ha := nameAll_at t t.size 0 (by omega) h2
 obtain ⟨b, hb, hv⟩ := drop_cons t 0 h0
 rw [List.drop_zero] at hb
 refine ⟨b, _, hb, ?_, ?_⟩
 ·intro c hc
  obtain ⟨i, hi, rfl⟩ := List.mem_iff_getElem.mp hc
  have := ha i (by omega) hi
  rw [sl_bt t i hi] at this
  exact nameC_wrd this
 ·have := ha 0 (by omega) h0
  rw [hv] at this
  unfold nameC lett dgt at this
  simp at this
  omega
theorem un_word {t : ByteArray} {b : UInt8} {l : List UInt8} (h : sl t = b :: l) (hb : wrdB b = true) : arith_unary.f t = some 0 := by
 have hne : ∀ c : UInt8, wrdB c = false → ¬ t.toList = [c] := by
  intro c hc e
  rw [Go.ByteArray.toList_eq, show t.data.toList = b :: l from h] at e
  simp at e
  rw [e.1, hc] at hb
  cases hb
 unfold arith_unary.f
 rw [if_neg (hne _ rfl), if_neg (hne _ rfl), if_neg (hne _ rfl), if_neg (hne _ rfl)]
theorem ne40_word {t : ByteArray} {b : UInt8} {l : List UInt8} (h : sl t = b :: l) (hb : wrdB b = true) : ¬ t.toList = [40] := by
 intro e
 rw [Go.ByteArray.toList_eq, show t.data.toList = b :: l from h] at e
 simp at e
 rw [e.1] at hb
 cases hb
theorem bt0 {t : ByteArray} {b : UInt8} {l : List UInt8} (h : sl t = b :: l) : bt t 0 = (b.toNat : Int) ∧ t.size ≠ 0 := by
 have h1 : t.size = l.length + 1 := by rw [← sl_length, h]; rfl
 obtain ⟨c, hc, hv⟩ := drop_cons t 0 (by omega)
 rw [List.drop_zero, h] at hc
 simp at hc
 exact ⟨by rw [hc]; exact hv, by omega⟩
theorem wb_of {b : UInt8} (h : wrdB b = true) : arith_wordByte.f (b.toNat : Int) = some true := by
 unfold wrdB at h
 simpa using h
theorem sl_mk (t : ByteArray) : (⟨(sl t).toArray⟩ : ByteArray) = t := rfl
def sep (rest : List UInt8) : Prop := rest = [] ∨ ∃ b l, rest = b :: l ∧ (b = 32 ∨ b = 41)
theorem sep_wrd {rest : List UInt8} (h : sep rest) : ∀ b ∈ rest.head?, wrdB b = false := by
 rcases h with rfl | ⟨b, l, rfl, rfl | rfl⟩ <;> intro c hc <;> simp at hc <;> subst hc <;> rfl
abbrev Vb (rest : List UInt8) : List UInt8 := rest.dropWhile blkB
theorem Vb_sp (L : List UInt8) : Vb (32 :: L) = Vb L := by
 show List.dropWhile blkB (32 :: L) = _
 rw [List.dropWhile_cons, if_pos (by rfl)]
theorem Vb_good {b : UInt8} {l : List UInt8} (h : blkB b = false) : Vb (b :: l) = b :: l := by
 show List.dropWhile blkB (b :: l) = _
 rw [List.dropWhile_cons, if_neg (by simp [h])]
theorem bin_facts {op : Int} (h0 : 7 ≤ op) (h1 : op ≤ 24) : (∃ b l, sg op = b :: l ∧ blkB b = false ∧ wrdB b = false) ∧ (sg op).length ≤ 2 ∧ ((sg op).length = 1 ∨ oprB (sg op) = true) ∧ arith_binary.f ⟨(sg op).toArray⟩ = some (op, (hgt op : Int)) ∧ 3 ≤ hgt op ∧ hgt op ≤ 12 := by
 have : op = 7 ∨ op = 8 ∨ op = 9 ∨ op = 10 ∨ op = 11 ∨ op = 12 ∨ op = 13 ∨ op = 14 ∨ op = 15 ∨ op = 16 ∨ op = 17 ∨ op = 18 ∨ op = 19 ∨ op = 20 ∨ op = 21 ∨ op = 22 ∨ op = 23 ∨ op = 24 := by omega
 rcases this with rfl | rfl | rfl | rfl | rfl | rfl | rfl | rfl | rfl | rfl | rfl | rfl | rfl | rfl | rfl | rfl | rfl | rfl <;>
  refine ⟨⟨_, _, rfl, rfl, rfl⟩, by decide, by first | exact .inl rfl | exact .inr (by kernel_rfl), by kernel_rfl, by decide, by decide⟩
theorem un_facts {op : Int} (h0 : 3 ≤ op) (h1 : op ≤ 6) : ∃ b, sg op = [b] ∧ good b ∧ b ∈ ([45, 43, 33, 126] : List UInt8) ∧ arith_unary.f ⟨#[b]⟩ = some op ∧ hgt op = 13 := by
 have : op = 3 ∨ op = 4 ∨ op = 5 ∨ op = 6 := by omega
 rcases this with rfl | rfl | rfl | rfl <;> refine ⟨_, rfl, ⟨rfl, by decide⟩, by decide, by kernel_rfl, by decide⟩
theorem asg_facts {n : Int} (h : asgB n = true) : (∃ b l, asg n = b :: l ∧ blkB b = false ∧ wrdB b = false) ∧ (asg n).length ≤ 3 ∧ ((asg n).length = 1 ∨ oprB (asg n) = true) ∧ arith_assignment.f 1 ⟨(asg n).toArray⟩ = some (n, true) ∧ arith_binary.f ⟨(asg n).toArray⟩ = some (0, 0) := by
 have : n = 0 ∨ n = 7 ∨ n = 8 ∨ n = 9 ∨ n = 10 ∨ n = 11 ∨ n = 12 ∨ n = 13 ∨ n = 20 ∨ n = 21 ∨ n = 22 := by
  unfold asgB at h
  simp at h
  omega
 rcases this with rfl | rfl | rfl | rfl | rfl | rfl | rfl | rfl | rfl | rfl | rfl <;>
  refine ⟨⟨_, _, rfl, rfl, rfl⟩, by decide, by first | exact .inl rfl | exact .inr (by kernel_rfl), by kernel_rfl, by kernel_rfl⟩
def accD (a : Nat) (b : UInt8) : Nat := a * 10 + (b.toNat - 48)
theorem dd_step (u : Nat) (h : ¬ u < 10) : Lib.decDigits u = Lib.decDigits (u / 10) ++ [UInt8.ofNat (48 + u % 10)] := by
 rw [Lib.decDigits, dif_neg h]
theorem dgt_nat {d : Nat} (h : d < 10) : (UInt8.ofNat (48 + d)).toNat = 48 + d := by
 simp
 omega
theorem dd_facts (u : Nat) : (∀ b ∈ Lib.decDigits u, 48 ≤ b.toNat ∧ b.toNat ≤ 57) ∧ (Lib.decDigits u).foldl accD 0 = u ∧ ∃ b l, Lib.decDigits u = b :: l ∧ (u ≠ 0 → b.toNat ≠ 48) := by
 induction u using Nat.strongRecOn with
 | _ u ih =>
  by_cases h : u < 10
  ·rw [Lib.decDigits_one h]
   have e := dgt_nat h
   refine ⟨?_, ?_, _, _, rfl, ?_⟩
   ·intro b hb
    simp only [List.mem_singleton] at hb
    rw [hb, e]
    omega
   ·show accD 0 _ = u
    unfold accD
    rw [e]
    omega
   ·intro h0
    rw [e]
    omega
  ·obtain ⟨h1, h2, b, l, h3, h4⟩ := ih (u / 10) (by omega)
   have e := dgt_nat (show u % 10 < 10 by omega)
   rw [dd_step u h]
   refine ⟨?_, ?_, b, l ++ [UInt8.ofNat (48 + u % 10)], ?_, fun _ => h4 (by omega)⟩
   ·intro b hb
    rcases List.mem_append.mp hb with hb | hb
    ·exact h1 b hb
    ·simp only [List.mem_singleton] at hb
     rw [hb, e]
     omega
   ·rw [List.foldl_append, h2]
    show accD (u / 10) _ = u
    unfold accD
    rw [e]
    omega
   ·rw [h3]
    rfl
theorem foldD_ge : ∀ (l : List UInt8) (a : Nat), a ≤ l.foldl accD a
 | [], a => Nat.le_refl _
 | b :: l, a => by
  have := foldD_ge l (accD a b)
  have h : a ≤ accD a b := by unfold accD; omega
  exact Nat.le_trans h this
theorem wrap_in {z : Int} (h0 : -9223372036854775808 ≤ z) (h1 : z ≤ 9223372036854775807) : wrap64 z = z := by
 simp only [wrap64, IntKind.wrap]
 omega
theorem value_dgt (k : Nat) {b : UInt8} (h : 48 ≤ b.toNat ∧ b.toNat ≤ 57) : arith_value.f k (b.toNat : Int) = some ((b.toNat - 48 : Nat) : Int) := by
 have hd : arith_digit.f (b.toNat : Int) = some true := by
  unfold arith_digit.f
  rw [if_pos (by omega)]
  simp
  omega
 unfold arith_value.f
 rw [hd, Option.bind_some, if_pos rfl]
 congr 1
 omega
theorem dec_loop (t : ByteArray) (ht : t.size ≤ 4096) : ∀ (l : List UInt8) (i a k : Nat), (sl t).drop i = l → i ≤ t.size → (∀ b ∈ l, 48 ≤ b.toNat ∧ b.toNat ≤ 57) → l.foldl accD a ≤ 9223372036854775807 → l.length + 1 ≤ k → arith_number.l0 k 10 t (a : Int) false (t.size : Int) (i : Int) = some (((l.foldl accD a : Nat) : Int), 0) := by
 intro l
 induction l with
 | nil =>
  intro i a k h hi hl hv hk
  obtain ⟨k, rfl⟩ : ∃ j, k = j + 1 := ⟨k - 1, by omega⟩
  have : t.size ≤ i := by
   have := congrArg List.length h
   rw [List.length_drop, sl_length] at this
   simp at this
   omega
  rw [arith_number.l0, if_neg (by omega), if_neg (by simp)]
  rfl
 | cons b l ih =>
  intro i a k h hi hl hv hk
  obtain ⟨k, rfl⟩ : ∃ j, k = j + 1 := ⟨k - 1, by omega⟩
  have hi' : i < t.size := by
   have := congrArg List.length h
   rw [List.length_drop, sl_length] at this
   simp at this
   omega
  obtain ⟨c, hc, hv2⟩ := drop_cons t i hi'
  rw [h] at hc
  simp only [List.cons.injEq] at hc
  obtain ⟨rfl, hc⟩ := hc
  have hb := hl b (List.mem_cons_self ..)
  have c1 : (i : Int) < (t.size : Int) := by omega
  have c2 : (0 : Int) ≤ (i : Int) := Int.natCast_nonneg i
  have c3 : ¬ ((b.toNat - 48 : Nat) : Int) ≥ 10 := by omega
  have c4 : ¬ (10 : Int) = 0 := by decide
  have hw : wrap64 ((i : Int) + 1) = ((i + 1 : Nat) : Int) := by rw [wrap_in (by omega) (by omega)]; omega
  have hge := foldD_ge l (accD a b)
  have hv' : l.foldl accD (accD a b) ≤ 9223372036854775807 := hv
  have hac : accD a b = a * 10 + (b.toNat - 48) := rfl
  have hw2 : wrap64 (9223372036854775807 - ((b.toNat - 48 : Nat) : Int)) = 9223372036854775807 - ((b.toNat - 48 : Nat) : Int) := wrap_in (by omega) (by omega)
  have hq : (9223372036854775807 - ((b.toNat - 48 : Nat) : Int)).tdiv 10 = (9223372036854775807 - ((b.toNat - 48 : Nat) : Int)) / 10 := Int.tdiv_eq_ediv_of_nonneg (by omega)
  have hw3 : wrap64 ((9223372036854775807 - ((b.toNat - 48 : Nat) : Int)) / 10) = (9223372036854775807 - ((b.toNat - 48 : Nat) : Int)) / 10 := wrap_in (by omega) (by omega)
  have hnot : ¬ ((a : Int) > (9223372036854775807 - ((b.toNat - 48 : Nat) : Int)) / 10) := by omega
  have hm : wrap64 (wrap64 ((a : Int) * 10) + ((b.toNat - 48 : Nat) : Int)) = ((accD a b : Nat) : Int) := by
   rw [wrap_in (z := (a : Int) * 10) (by omega) (by omega), wrap_in (by omega) (by omega), hac]
   omega
  simp only [List.length_cons] at hk
  rw [arith_number.l0, if_pos c1, if_pos c2, if_pos c1, hv2, value_dgt k hb, Option.bind_some, if_neg c3, if_neg Bool.false_ne_true, if_neg c4, hw2, hq, hw3, if_neg hnot, hm, hw, decide_eq_false hnot]
  exact ih (i + 1) (accD a b) k hc.symm (by omega) (fun c hc => hl c (List.mem_cons_of_mem _ hc)) hv' (by omega)
theorem number_dec (u : Nat) (hu : u ≤ 9223372036854775807) (t : ByteArray) (ht : sl t = Lib.decDigits u) (hs : t.size ≤ 4096) : arith_number.f (t.size + 3) t = some ((u : Int), 0) := by
 obtain ⟨h1, h2, b, l, h3, h4⟩ := dd_facts u
 rcases Nat.eq_zero_or_pos u with rfl | h0
 ·have e : t = ⟨#[48]⟩ := by
   rw [Lib.decDigits_one (by omega)] at ht
   rw [← sl_mk t, ht]
   rfl
  rw [e]
  have : arith_number.f ((⟨#[48]⟩ : ByteArray).size + 3) ⟨#[48]⟩ = some (((0 : Nat) : Int), 0) := by kernel_rfl
  exact this
 ·have hne := h4 (by omega)
  have hsz : t.size = (Lib.decDigits u).length := by rw [← ht]; rfl
  have hpos : 1 ≤ t.size := by rw [hsz, h3]; simp
  have hbt : ¬ bt t 0 = 48 := by
   obtain ⟨c, hc, hv⟩ := drop_cons t 0 (by omega)
   rw [List.drop_zero, ht, h3] at hc
   simp only [List.cons.injEq] at hc
   have hv' : bt t 0 = (c.toNat : Int) := hv
   rw [hv', ← hc.1]
   omega
  have hl := dec_loop t hs (Lib.decDigits u) 0 0 (t.size + 1) (by rw [List.drop_zero, ht]) (by omega) h1 (by rw [h2]; exact hu) (by omega)
  rw [h2, show ((0 : Nat) : Int) = 0 from rfl] at hl
  have hnil : ¬ t.toList = [] := by
   rw [Go.ByteArray.toList_eq]
   intro e
   have : t.size = 0 := by
    show t.data.toList.length = 0
    rw [e]
    rfl
   omega
  have hj : arith_number.j0 (t.size + 3) t 10 t false = some ((u : Int), 0) := by
   rw [arith_number.j0, if_neg (by simp), if_pos (by omega), if_neg hbt, arith_number.j1, if_neg hnil]
   exact hl
  unfold arith_number.f
  rw [hj, if_neg hbt]
  split
  ·rw [if_pos (by omega)]
  ·rfl
theorem itoa_eq {n : Int} (h0 : 0 ≤ n) : itoaL n = Lib.decDigits n.toNat := by
 unfold itoaL Lib.itoa
 rw [if_neg (by omega)]
theorem dgt_wrd {b : UInt8} (h : 48 ≤ b.toNat ∧ b.toNat ≤ 57) : wrdB b = true := (wrd_iff b).mpr (.inr h)
theorem itoa_read {s : ByteArray} {n : Int} {rest : List UInt8} (hs : s.size ≤ 4096) (h0 : 0 ≤ n) (h1 : n ≤ 9223372036854775807) (hS : (itoaL n ++ rest) <:+ sl s) (hsep : sep rest) : E s .operand (itoaL n ++ rest) (okL s ⟨1, n, noName, []⟩ (Vb rest)) := by
 obtain ⟨d1, d2, b, l, d3, d4⟩ := dd_facts n.toNat
 rw [itoa_eq h0] at hS ⊢
 have hw : ∀ b ∈ Lib.decDigits n.toNat, wrdB b = true := fun b hb => dgt_wrd (d1 b hb)
 have hb : 48 ≤ b.toNat ∧ b.toNat ≤ 57 := d1 b (by rw [d3]; simp)
 obtain ⟨e1, e2⟩ := lex_of (lex_word (rest := rest) (by rw [d3]; simp) hw (sep_wrd hsep))
 have ht : sl (⟨(Lib.decDigits n.toNat).toArray⟩ : ByteArray) = Lib.decDigits n.toNat := rfl
 have h3 : sl (⟨(Lib.decDigits n.toNat).toArray⟩ : ByteArray) = b :: l := ht.trans d3
 obtain ⟨b1, b2⟩ := bt0 h3
 have hlen := hS.length_le
 rw [List.length_append, sl_length] at hlen
 have hsz : (⟨(Lib.decDigits n.toNat).toArray⟩ : ByteArray).size = (Lib.decDigits n.toNat).length := rfl
 have hnum := number_dec n.toNat (by omega) ⟨(Lib.decDigits n.toNat).toArray⟩ ht (by omega)
 rw [show ((n.toNat : Nat) : Int) = n by omega] at hnum
 have := E.num (L := Lib.decDigits n.toNat ++ rest) (n := n) hS (by rw [e1]; exact un_word h3 (dgt_wrd hb)) (by rw [e1]; exact ne40_word h3 (dgt_wrd hb)) (by rw [e1]; exact b2) (by rw [e1, b1]; exact wb_of (dgt_wrd hb)) (by
  rw [e1, b1]
  unfold arith_digit.f
  rw [if_pos (by omega)]
  simp
  omega) (by rw [e1]; exact hnum)
 rw [e2] at this
 exact this
theorem itoa_head {n : Int} (h0 : 0 ≤ n) : ∃ b l, itoaL n = b :: l ∧ good b := by
 obtain ⟨d1, d2, b, l, d3, d4⟩ := dd_facts n.toNat
 exact ⟨b, l, by rw [itoa_eq h0, d3], good_wrd (dgt_wrd (d1 b (by rw [d3]; simp)))⟩
def bodyL (m : Nat) (x : S26) : List UInt8 :=
 if x.f0 = 26 then sl x.f2 ++ 32 :: (asg x.f1 ++ 32 :: showL m (kid x 0) 1)
  else if x.f0 = 25 then showL m (kid x 0) 3 ++ 32 :: 63 :: 32 :: (showL m (kid x 1) 1 ++ 32 :: 58 :: 32 :: showL m (kid x 2) 2)
  else if x.f0 = 1 then itoaL x.f1
  else if x.f0 = 2 then sl x.f2
  else if x.f0 ≤ 6 then sg x.f0 ++ showL m (kid x 0) 13
  else showL m (kid x 0) (hgt x.f0) ++ 32 :: (sg x.f0 ++ 32 :: showL m (kid x 1) (hgt x.f0 + 1))
theorem showL_eq (m : Nat) (x : S26) (least : Nat) : showL (m + 1) x least = if hgt x.f0 < least then 40 :: (bodyL m x ++ [41]) else bodyL m x := rfl
theorem body_num (m : Nat) (n : Int) : bodyL m ⟨1, n, noName, []⟩ = itoaL n := rfl
theorem body_var (m : Nat) (t : ByteArray) : bodyL m ⟨2, 0, t, []⟩ = sl t := rfl
theorem body_un (m : Nat) (op : Int) (a : S26) (h0 : 3 ≤ op) (h1 : op ≤ 6) : bodyL m ⟨op, 0, noName, [a]⟩ = sg op ++ showL m a 13 := by
 unfold bodyL
 simp only
 rw [if_neg (by omega), if_neg (by omega), if_neg (by omega), if_neg (by omega), if_pos h1]
 rfl
theorem body_bin (m : Nat) (op : Int) (a b : S26) (h0 : 7 ≤ op) (h1 : op ≤ 24) : bodyL m ⟨op, 0, noName, [a, b]⟩ = showL m a (hgt op) ++ 32 :: (sg op ++ 32 :: showL m b (hgt op + 1)) := by
 unfold bodyL
 simp only
 rw [if_neg (by omega), if_neg (by omega), if_neg (by omega), if_neg (by omega), if_neg (by omega)]
 rfl
theorem body_cond (m : Nat) (a b c : S26) : bodyL m ⟨25, 0, noName, [a, b, c]⟩ = showL m a 3 ++ 32 :: 63 :: 32 :: (showL m b 1 ++ 32 :: 58 :: 32 :: showL m c 2) := rfl
theorem body_set (m : Nat) (n : Int) (t : ByteArray) (a : S26) : bodyL m ⟨26, n, t, [a]⟩ = sl t ++ 32 :: (asg n ++ 32 :: showL m a 1) := rfl
theorem good40 : good 40 := ⟨rfl, by decide⟩
theorem show_head_of (m : Nat) (x : S26) (h : ∃ b l, bodyL m x = b :: l ∧ good b) (n : Nat) : ∃ b l, showL (m + 1) x n = b :: l ∧ good b := by
 rw [showL_eq]
 split
 ·exact ⟨_, _, rfl, good40⟩
 ·exact h
theorem show_head : ∀ {m : Nat} {x : S26}, V m x → ∀ n, ∃ b l, showL m x n = b :: l ∧ good b := by
 intro m x h
 induction h with
 | num m n h0 h1 => exact show_head_of _ _ (itoa_head h0)
 | var m t h =>
  obtain ⟨b, l, h1, h2, _⟩ := name_bytes h
  exact show_head_of _ _ ⟨b, l, by rw [body_var, h1], good_wrd (h2 b (by rw [h1]; simp))⟩
 | un m op a h0 h1 _ _ =>
  obtain ⟨b, h2, h3, _⟩ := un_facts h0 h1
  exact show_head_of _ _ ⟨b, _, by rw [body_un _ _ _ h0 h1, h2]; rfl, h3⟩
 | bin m op a b h0 h1 _ _ ih _ =>
  obtain ⟨c, l, h2, h3⟩ := ih (hgt op)
  exact show_head_of _ _ ⟨c, _, by rw [body_bin _ _ _ _ h0 h1, h2]; rfl, h3⟩
 | cond m a b c _ _ _ ih _ _ =>
  obtain ⟨c, l, h2, h3⟩ := ih 3
  exact show_head_of _ _ ⟨c, _, by rw [body_cond, h2]; rfl, h3⟩
 | set m n t a h0 h1 _ _ =>
  obtain ⟨b, l, h1, h2, _⟩ := name_bytes h1
  exact show_head_of _ _ ⟨b, _, by rw [body_set, h1]; rfl, good_wrd (h2 b (by rw [h1]; simp))⟩
/-- What may follow a whole expression: no operator, no '?', no assignment. -/
def Fq (U : List UInt8) : Prop := Lo 3 U ∧ ¬ (tk U).toList = [63]
def Fa (U : List UInt8) : Prop := Fq U ∧ ∃ o, arith_assignment.f 1 (tk U) = some (o, false)
def Rl (s : ByteArray) (f : Nat → List UInt8) (x : S26) : Prop := ∀ (n : Nat) rest r, 3 ≤ n → n ≤ 12 → (f n ++ rest) <:+ sl s → sep rest → Lo (n + 1) (Vb rest) → E s (.more n x) (Vb rest) r → E s (.level n) (f n ++ rest) r
def R13 (s : ByteArray) (f : Nat → List UInt8) (x : S26) : Prop := ∀ rest, (f 13 ++ rest) <:+ sl s → sep rest → E s .operand (f 13 ++ rest) (okL s x (Vb rest))
def R2 (s : ByteArray) (f : Nat → List UInt8) (x : S26) : Prop := ∀ rest, (f 2 ++ rest) <:+ sl s → sep rest → Fq (Vb rest) → E s .second (f 2 ++ rest) (okL s x (Vb rest))
def R1 (s : ByteArray) (f : Nat → List UInt8) (x : S26) : Prop := ∀ rest, (f 1 ++ rest) <:+ sl s → sep rest → Fa (Vb rest) → E s .first (f 1 ++ rest) (okL s x (Vb rest))
def RT (s : ByteArray) (f : Nat → List UInt8) (x : S26) : Prop := Rl s f x ∧ R13 s f x ∧ R2 s f x ∧ R1 s f x
section
variable {s : ByteArray} {x : S26} {B : List UInt8}
/-- An operand's text that stands as it is on all levels. -/
theorem rt_operand {f : Nat → List UInt8} {n : Nat} {rest} (hE : E s .operand (f n ++ rest) (okL s x (Vb rest))) :
 (∀ r, n ≤ 12 → Lo (n + 1) (Vb rest) → E s (.more n x) (Vb rest) r → E s (.level n) (f n ++ rest) r) ∧ (Fq (Vb rest) → E s .second (f n ++ rest) (okL s x (Vb rest))) ∧ (Fa (Vb rest) → E s .first (f n ++ rest) (okL s x (Vb rest))) := by
 have h2 : Fq (Vb rest) → E s .second (f n ++ rest) (okL s x (Vb rest)) := fun h => E.second_stop (hE.lift 3 (by omega) h.1) h.2
 refine ⟨fun r hn hL hr => hE.lift_more n hn hL hr, h2, fun h => ?_⟩
 obtain ⟨h1, o, ho⟩ := h
 exact (h2 h1).first_stop ho (by simp)
theorem sep41 (rest : List UInt8) : sep (41 :: rest) := .inr ⟨41, rest, rfl, .inr rfl⟩
theorem sep32 (rest : List UInt8) : sep (32 :: rest) := .inr ⟨32, rest, rfl, .inl rfl⟩
theorem one {c : UInt8} {rest : List UInt8} (hc : wrdB c = false) (hb : c ∉ ([60, 62, 61, 33, 38, 124, 43, 45, 42, 47, 37, 94] : List UInt8)) : tk (c :: rest) = ⟨#[c]⟩ ∧ nx (c :: rest) = Vb rest := lex_of (w := [c]) (lex_one hc hb)
theorem Fa41 (rest : List UInt8) : Fa (Vb (41 :: rest)) := by
 rw [Vb_good rfl]
 obtain ⟨h1, _⟩ := one (c := 41) (rest := rest) rfl (by decide)
 refine ⟨⟨⟨0, 0, by rw [h1]; exact bi41, by omega⟩, by rw [h1, Go.ByteArray.toList_eq]; decide⟩, 0, by rw [h1]; exact as41⟩
/-- A text in parentheses. -/
theorem rt_paren (hB : ∀ rest, (B ++ rest) <:+ sl s → sep rest → Fa (Vb rest) → E s .first (B ++ rest) (okL s x (Vb rest))) (hh : ∃ b l, B = b :: l ∧ good b) : ∀ rest, (40 :: (B ++ [41]) ++ rest) <:+ sl s → E s .operand (40 :: (B ++ [41]) ++ rest) (okL s x (Vb rest)) := by
 intro rest hS
 rw [List.cons_append, List.append_assoc] at hS ⊢
 have hS2 : (B ++ ([41] ++ rest)) <:+ sl s := (List.suffix_cons _ _).trans hS
 have hS3 : ([41] ++ rest) <:+ sl s := (List.suffix_append _ _).trans hS2
 have h1 := hB ([41] ++ rest) hS2 (sep41 _) (Fa41 _)
 obtain ⟨t0, n0⟩ := one (c := 40) (rest := B ++ ([41] ++ rest)) rfl (by decide)
 obtain ⟨t1, n1⟩ := one (c := 41) (rest := rest) rfl (by decide)
 have e : Vb ([41] ++ rest) = 41 :: rest := Vb_good rfl
 obtain ⟨b, l, rfl, hg⟩ := hh
 have e0 : Vb (b :: l ++ ([41] ++ rest)) = b :: l ++ ([41] ++ rest) := Vb_good hg.1
 have h2 := E.paren (L := 40 :: (b :: l ++ ([41] ++ rest))) (U := 41 :: rest) (y := x) hS hS3 (by rw [t0]; kernel_rfl) (by rw [t0, Go.ByteArray.toList_eq]) (by rw [n0, e0, ← e]; exact h1) (by rw [t1, Go.ByteArray.toList_eq])
 rw [n1] at h2
 exact h2
theorem E.to_ok {n : Nat} {L U} (hn : n ≤ 12) (h : ∀ r, E s (.more n x) U r → E s (.level n) L r) (hL : Lo n U) : E s (.level n) L (okL s x U) := by
 obtain ⟨o, l, h1, h2⟩ := hL
 exact h _ (E.more_stop h1 (by omega))
/-- A body of height h in its places. -/
theorem rt_of {m : Nat} (hh : ∃ b l, bodyL m x = b :: l ∧ good b)
 (h1 : ∀ rest, (bodyL m x ++ rest) <:+ sl s → sep rest → Fa (Vb rest) → E s .first (bodyL m x ++ rest) (okL s x (Vb rest)))
 (h2 : 2 ≤ hgt x.f0 → ∀ rest, (bodyL m x ++ rest) <:+ sl s → sep rest → Fq (Vb rest) → E s .second (bodyL m x ++ rest) (okL s x (Vb rest)))
 (h3 : ∀ n, 3 ≤ n → n ≤ 12 → n ≤ hgt x.f0 → ∀ rest r, (bodyL m x ++ rest) <:+ sl s → sep rest → Lo (n + 1) (Vb rest) → E s (.more n x) (Vb rest) r → E s (.level n) (bodyL m x ++ rest) r)
 (h4 : 13 ≤ hgt x.f0 → ∀ rest, (bodyL m x ++ rest) <:+ sl s → sep rest → E s .operand (bodyL m x ++ rest) (okL s x (Vb rest))) (hp : 1 ≤ hgt x.f0) : RT s (showL (m + 1) x) x := by
 have P := rt_paren h1 hh
 refine ⟨fun n rest r ha hb hS hs hL hr => ?_, fun rest hS hs => ?_, fun rest hS hs hq => ?_, fun rest hS hs hq => ?_⟩
 ·rw [showL_eq] at hS ⊢
  split
  ·rename_i hc
   rw [if_pos hc] at hS
   exact (rt_operand (f := fun _ => 40 :: (bodyL m x ++ [41])) (n := n) (P rest hS)).1 r hb hL hr
  ·rename_i hc
   rw [if_neg hc] at hS
   exact h3 n ha hb (by omega) rest r hS hs hL hr
 ·rw [showL_eq] at hS ⊢
  split
  ·rename_i hc
   rw [if_pos hc] at hS
   exact P rest hS
  ·rename_i hc
   rw [if_neg hc] at hS
   exact h4 (by omega) rest hS hs
 ·rw [showL_eq] at hS ⊢
  split
  ·rename_i hc
   rw [if_pos hc] at hS
   exact (rt_operand (f := fun _ => 40 :: (bodyL m x ++ [41])) (n := 2) (P rest hS)).2.1 hq
  ·rename_i hc
   rw [if_neg hc] at hS
   exact h2 (by omega) rest hS hs hq
 ·rw [showL_eq] at hS ⊢
  rw [if_neg (by omega)] at hS ⊢
  exact h1 rest hS hs hq
/-- Operands: height 13 and more. -/
theorem rt_op {m : Nat} (hh : ∃ b l, bodyL m x = b :: l ∧ good b) (hx : 13 ≤ hgt x.f0) (h : ∀ rest, (bodyL m x ++ rest) <:+ sl s → sep rest → E s .operand (bodyL m x ++ rest) (okL s x (Vb rest))) : RT s (showL (m + 1) x) x :=
 rt_of hh (fun rest hS hs hq => (rt_operand (f := fun _ => bodyL m x) (n := 1) (h rest hS hs)).2.2 hq)
  (fun _ rest hS hs hq => (rt_operand (f := fun _ => bodyL m x) (n := 2) (h rest hS hs)).2.1 hq)
  (fun n _ hn _ rest r hS hs hL hr => (rt_operand (f := fun _ => bodyL m x) (n := n) (h rest hS hs)).1 r hn hL hr) (fun _ => h) (by omega)
end
theorem name_read {s : ByteArray} {t : ByteArray} {rest : List UInt8} (h : nameB t = true) (hS : (sl t ++ rest) <:+ sl s) (hsep : sep rest) : E s .operand (sl t ++ rest) (okL s ⟨2, 0, t, []⟩ (Vb rest)) := by
 obtain ⟨b, l, h1, h2, h3⟩ := name_bytes h
 have hb : wrdB b = true := h2 b (by rw [h1]; simp)
 obtain ⟨e1, e2⟩ := lex_of (lex_word (rest := rest) (by rw [h1]; simp) h2 (sep_wrd hsep))
 rw [sl_mk] at e1
 obtain ⟨b1, b2⟩ := bt0 h1
 have := E.name (L := sl t ++ rest) hS (by rw [e1]; exact un_word h1 hb) (by rw [e1]; exact ne40_word h1 hb) (by rw [e1]; exact b2) (by rw [e1, b1]; exact wb_of hb) (by
  rw [e1, b1]
  unfold arith_digit.f
  split
  ·simp
   omega
  ·simp) (by rw [e1]; exact h)
 rw [e1, e2] at this
 exact this
theorem name_bare {s t : ByteArray} {U : List UInt8} (h : nameB t = true) (hS : (sl t ++ 32 :: U) <:+ sl s) : bareN s (pl s U) = true := by
 obtain ⟨A, hA⟩ := hS
 obtain ⟨b, l, h1, h2, h3⟩ := name_bytes h
 have hn : t.size = l.length + 1 := by rw [← sl_length, h1]; rfl
 have hl : s.size = A.length + (t.size + (U.length + 1)) := by
  rw [← sl_length s, ← hA]
  simp [sl_length]
 have e : pl s U = A.length + l.length + 1 + 1 := by unfold pl; omega
 -- the byte at place i of s
 have at_ : ∀ i, i < s.size → ∀ c, (A ++ (sl t ++ 32 :: U))[i]? = some c → bt s (i : Int) = (c.toNat : Int) := by
  intro i hi c hc
  rw [hA] at hc
  rw [sl_bt s i hi]
  rw [List.getElem?_eq_getElem (by rw [sl_length]; exact hi)] at hc
  have hc := Option.some.inj hc
  rw [← hc]
 have v1 : bt s ((A.length + l.length + 1 : Nat) : Int) = 32 := by
  rw [at_ _ (by omega) 32]
  ·rfl
  ·rw [List.getElem?_append_right (by omega), List.getElem?_append_right (by rw [sl_length]; omega)]
   rw [show A.length + l.length + 1 - A.length - (sl t).length = 0 by rw [sl_length]; omega]
   rfl
 obtain ⟨c, hc⟩ : ∃ c, (sl t)[l.length]? = some c := ⟨_, List.getElem?_eq_getElem (by rw [sl_length]; omega)⟩
 have v2 : bt s ((A.length + l.length : Nat) : Int) = (c.toNat : Int) := by
  refine at_ _ (by omega) c ?_
  rw [List.getElem?_append_right (by omega), List.getElem?_append_left (by rw [sl_length]; omega)]
  rw [show A.length + l.length - A.length = l.length by omega]
  exact hc
 have hw := h2 c (List.mem_of_getElem? hc)
 rw [wrd_iff] at hw
 rw [e]
 have e1 : bareN s (A.length + l.length + 1 + 1) = if isBl (bt s ((A.length + l.length + 1 : Nat) : Int)) = true then bareN s (A.length + l.length + 1) else !(bt s ((A.length + l.length + 1 : Nat) : Int) == 41) := rfl
 have e2 : bareN s (A.length + l.length + 1) = if isBl (bt s ((A.length + l.length : Nat) : Int)) = true then bareN s (A.length + l.length) else !(bt s ((A.length + l.length : Nat) : Int) == 41) := rfl
 rw [e1, e2, v1, v2]
 rw [if_pos (by rfl)]
 have hb : isBl (c.toNat : Int) = false := by
  unfold isBl
  simp
  omega
 rw [hb]
 simp
 omega
theorem tok_then {w rest : List UInt8} {b : UInt8} (h1 : ∃ b l, w = b :: l ∧ blkB b = false ∧ wrdB b = false) (h2 : w.length ≤ 3) (h3 : w.length = 1 ∨ oprB w = true) : tk (w ++ 32 :: rest) = ⟨w.toArray⟩ ∧ nx (w ++ 32 :: rest) = Vb rest ∧ Vb (w ++ 32 :: rest) = w ++ 32 :: rest := by
 obtain ⟨b, l, rfl, hb, hw⟩ := h1
 obtain ⟨e1, e2⟩ := lex_of (lex_op_then (w := b :: l) (rest := rest) (b := 32) (by simp) h2 (fun c hc => by simp at hc; exact hc ▸ hw) h3 (by decide))
 exact ⟨e1, e2.trans (Vb_sp rest), Vb_good hb⟩
theorem read_back {s : ByteArray} (hsz : s.size ≤ 4096) : ∀ {m : Nat} {x : S26}, V m x → RT s (showL m x) x := by
 intro m x h
 induction h with
 | num m n h0 h1 => exact rt_op (by rw [body_num]; exact itoa_head h0) (show 13 ≤ hgt 1 by decide) (fun rest hS hs => by rw [body_num] at hS ⊢; exact itoa_read hsz h0 h1 hS hs)
 | var m t h =>
  refine rt_op ?_ (show 13 ≤ hgt 2 by decide) (fun rest hS hs => by rw [body_var] at hS ⊢; exact name_read h hS hs)
  obtain ⟨b, l, h1, h2, _⟩ := name_bytes h
  exact ⟨b, l, by rw [body_var, h1], good_wrd (h2 b (by rw [h1]; simp))⟩
 | un m op a h0 h1 ha ih =>
  obtain ⟨b, h2, h3, h4, h5, h6⟩ := un_facts h0 h1
  refine rt_op ⟨b, _, by rw [body_un _ _ _ h0 h1, h2]; rfl, h3⟩ (by show 13 ≤ hgt op; omega) (fun rest hS hs => ?_)
  rw [body_un _ _ _ h0 h1, h2] at hS ⊢
  have hS' : b :: (showL m a 13 ++ rest) <:+ sl s := by simpa using hS
  obtain ⟨c, l, hc, hg⟩ := show_head ha 13
  have lx : tk (b :: (showL m a 13 ++ rest)) = ⟨#[b]⟩ ∧ nx (b :: (showL m a 13 ++ rest)) = showL m a 13 ++ rest := by
   rw [hc]
   obtain ⟨e1, e2⟩ := lex_of (w := [b]) (rest := c :: l ++ rest) (lex_sign h4 hg.2)
   exact ⟨e1, by rw [show b :: (c :: l ++ rest) = [b] ++ (c :: l ++ rest) from rfl, e2]; exact Vb_good hg.1⟩
  have := E.sign (L := b :: (showL m a 13 ++ rest)) (o := op) hS' (by rw [lx.1]; exact h5) (by omega) (by rw [lx.2]; exact ih.2.1 rest ((List.suffix_cons _ _).trans hS') hs)
  simpa using this
 | bin m op a b h0 h1 ha hb iha ihb =>
  obtain ⟨f1, f2, f3, f4, f5, f6⟩ := bin_facts h0 h1
  have hbody := body_bin m op a b h0 h1
  have hx : hgt (⟨op, 0, noName, [a, b]⟩ : S26).f0 = hgt op := rfl
  -- the whole, followed by what the level goes on with
  have core : ∀ rest r, (bodyL m ⟨op, 0, noName, [a, b]⟩ ++ rest) <:+ sl s → sep rest → Lo (hgt op + 1) (Vb rest) → E s (.more (hgt op) ⟨op, 0, noName, [a, b]⟩) (Vb rest) r → E s (.level (hgt op)) (bodyL m ⟨op, 0, noName, [a, b]⟩ ++ rest) r := by
   intro rest r hS hs hL hr
   rw [hbody] at hS ⊢
   simp only [List.append_assoc, List.cons_append] at hS ⊢
   obtain ⟨t1, t2, t3⟩ := tok_then (rest := showL m b (hgt op + 1) ++ rest) (b := 32) f1 (by omega) f3
   have S1 : (32 :: (sg op ++ 32 :: (showL m b (hgt op + 1) ++ rest))) <:+ sl s := (List.suffix_append _ _).trans hS
   have S2 : (sg op ++ 32 :: (showL m b (hgt op + 1) ++ rest)) <:+ sl s := (List.suffix_cons _ _).trans S1
   have S3 : (showL m b (hgt op + 1) ++ rest) <:+ sl s := (List.suffix_cons _ _).trans ((List.suffix_append _ _).trans S2)
   have eU : Vb (32 :: (sg op ++ 32 :: (showL m b (hgt op + 1) ++ rest))) = sg op ++ 32 :: (showL m b (hgt op + 1) ++ rest) := by rw [Vb_sp, t3]
   refine iha.1 (hgt op) _ r f5 f6 hS (sep32 _) ⟨op, hgt op, by rw [eU, t1]; exact f4, by omega⟩ ?_
   rw [eU]
   obtain ⟨c, l, hc, hg⟩ := show_head hb (hgt op + 1)
   have eN : nx (sg op ++ 32 :: (showL m b (hgt op + 1) ++ rest)) = showL m b (hgt op + 1) ++ rest := by rw [t2, hc]; exact Vb_good hg.1
   refine E.more_go (y := b) (U := Vb rest) S2 (by rw [t1]; exact f4) ?_ hr
   rw [eN]
   rcases Nat.lt_or_ge (hgt op) 12 with h12 | h12
   ·refine ihb.1 (hgt op + 1) rest _ (by omega) (by omega) S3 hs (hL.mono (by omega)) ?_
    obtain ⟨o, l, q1, q2⟩ := hL
    exact E.more_stop q1 (by omega)
   ·have e13 : hgt op + 1 = 13 := by omega
    rw [e13] at S3 ⊢
    exact (ihb.2.1 rest S3 hs).level13
  have lev : ∀ rest, (bodyL m ⟨op, 0, noName, [a, b]⟩ ++ rest) <:+ sl s → sep rest → ∀ n, n ≤ hgt op → Lo n (Vb rest) → E s (.level n) (bodyL m ⟨op, 0, noName, [a, b]⟩ ++ rest) (okL s ⟨op, 0, noName, [a, b]⟩ (Vb rest)) := by
   intro rest hS hs n hn hL
   have h := E.to_ok f6 (fun r hr => core rest r hS hs (hL.mono (by omega)) hr) (hL.mono hn)
   exact E.down h (by omega) (hgt op - n) n (by omega) hL
  have sec : ∀ rest, (bodyL m ⟨op, 0, noName, [a, b]⟩ ++ rest) <:+ sl s → sep rest → Fq (Vb rest) → E s .second (bodyL m ⟨op, 0, noName, [a, b]⟩ ++ rest) (okL s ⟨op, 0, noName, [a, b]⟩ (Vb rest)) := fun rest hS hs hq => E.second_stop (lev rest hS hs 3 f5 hq.1) hq.2
  refine rt_of ?_ (fun rest hS hs hq => ?_) (fun _ => sec) (fun n hn3 hn hh rest r hS hs hL hr => ?_) (fun hh => ?_) (by rw [hx]; omega)
  ·obtain ⟨c, l, h2, h3⟩ := show_head ha (hgt op)
   exact ⟨c, _, by rw [hbody, h2]; rfl, h3⟩
  ·obtain ⟨h2, o, ho⟩ := hq
   exact (sec rest hS hs h2).first_stop ho (by simp)
  ·rw [hx] at hh
   rcases Nat.lt_or_ge n (hgt op) with h2 | h2
   ·exact E.level (by omega) (lev rest hS hs (n + 1) h2 hL) hr
   ·obtain rfl : n = hgt op := by omega
    exact core rest r hS hs hL hr
  ·rw [hx] at hh
   omega
 | cond m a b c ha hb hc iha ihb ihc =>
  have core : ∀ rest, (bodyL m ⟨25, 0, noName, [a, b, c]⟩ ++ rest) <:+ sl s → sep rest → Fq (Vb rest) → E s .second (bodyL m ⟨25, 0, noName, [a, b, c]⟩ ++ rest) (okL s ⟨25, 0, noName, [a, b, c]⟩ (Vb rest)) := by
   intro rest hS hs hq
   rw [body_cond] at hS ⊢
   simp only [List.append_assoc, List.cons_append] at hS ⊢
   have S1 := (List.suffix_append _ _).trans hS
   have S2 := (List.suffix_cons _ _).trans S1
   have S3 := (List.suffix_cons _ _).trans ((List.suffix_cons _ _).trans S2)
   have S4 := (List.suffix_append _ _).trans S3
   have S5 := (List.suffix_cons _ _).trans S4
   have S6 := (List.suffix_cons _ _).trans ((List.suffix_cons _ _).trans S5)
   obtain ⟨d, l, hd, hg⟩ := show_head hb 1
   obtain ⟨d', l', hd', hg'⟩ := show_head hc 2
   obtain ⟨t1, t2⟩ := one (c := 63) (rest := 32 :: (showL m b 1 ++ 32 :: 58 :: 32 :: (showL m c 2 ++ rest))) rfl (by decide)
   obtain ⟨t3, t4⟩ := one (c := 58) (rest := 32 :: (showL m c 2 ++ rest)) rfl (by decide)
   rw [Vb_sp] at t2 t4
   have v1 : Vb (32 :: 63 :: 32 :: (showL m b 1 ++ 32 :: 58 :: 32 :: (showL m c 2 ++ rest))) = 63 :: 32 :: (showL m b 1 ++ 32 :: 58 :: 32 :: (showL m c 2 ++ rest)) := by rw [Vb_sp]; exact Vb_good rfl
   have v2 : Vb (32 :: 58 :: 32 :: (showL m c 2 ++ rest)) = 58 :: 32 :: (showL m c 2 ++ rest) := by rw [Vb_sp]; exact Vb_good rfl
   have b63 : arith_binary.f ⟨#[63]⟩ = some (0, 0) := by kernel_rfl
   have b58 : arith_binary.f ⟨#[58]⟩ = some (0, 0) := by kernel_rfl
   have a58 : arith_assignment.f 1 ⟨#[58]⟩ = some (0, false) := by kernel_rfl
   have hA := iha.1 3 _ (okL s a (63 :: 32 :: (showL m b 1 ++ 32 :: 58 :: 32 :: (showL m c 2 ++ rest)))) (by omega) (by omega) hS (sep32 _) ⟨0, 0, by rw [v1, t1]; exact b63, by omega⟩ (by rw [v1]; exact E.more_stop (by rw [t1]; exact b63) (by omega))
   have hB := ihb.2.2.2 _ S3 (sep32 _) (by rw [v2]; exact ⟨⟨⟨0, 0, by rw [t3]; exact b58, by omega⟩, by rw [t3, Go.ByteArray.toList_eq]; decide⟩, 0, by rw [t3]; exact a58⟩)
   have hC := ihc.2.2.1 _ S6 hs hq
   rw [v2] at hB
   refine E.second_go S2 S5 hA (by rw [t1, Go.ByteArray.toList_eq]) ?_ (by rw [t3, Go.ByteArray.toList_eq]) ?_
   ·rw [t2, hd]
    rw [hd] at hB
    rw [show Vb (d :: l ++ 32 :: 58 :: 32 :: (showL m c 2 ++ rest)) = _ from Vb_good hg.1]
    exact hB
   ·rw [t4, hd']
    rw [hd'] at hC
    rw [show Vb (d' :: l' ++ rest) = _ from Vb_good hg'.1]
    exact hC
  have hx : hgt (⟨25, 0, noName, [a, b, c]⟩ : S26).f0 = 2 := rfl
  refine rt_of ?_ (fun rest hS hs hq => ?_) (fun _ => core) (fun n hn3 hn hh rest r hS hs hL hr => ?_) (fun hh => ?_) (by rw [hx]; omega)
  ·obtain ⟨c', l, h2, h3⟩ := show_head ha 3
   exact ⟨c', _, by rw [body_cond, h2]; rfl, h3⟩
  ·obtain ⟨h2, o, ho⟩ := hq
   exact (core rest hS hs h2).first_stop ho (by simp)
  ·rw [hx] at hh
   omega
  ·rw [hx] at hh
   omega
 | set m n t a hn ht ha ih =>
  have hx : hgt (⟨26, n, t, [a]⟩ : S26).f0 = 1 := rfl
  obtain ⟨f1, f2, f3, f4, f5⟩ := asg_facts hn
  refine rt_of ?_ (fun rest hS hs hq => ?_) (fun hh => ?_) (fun n hn3 hn hh rest r hS hs hL hr => ?_) (fun hh => ?_) (by rw [hx]; omega)
  ·obtain ⟨b, l, h1, h2, _⟩ := name_bytes ht
   exact ⟨b, _, by rw [body_set, h1]; rfl, good_wrd (h2 b (by rw [h1]; simp))⟩
  ·rw [body_set] at hS ⊢
   simp only [List.append_assoc, List.cons_append] at hS ⊢
   obtain ⟨t1, t2, t3⟩ := tok_then (rest := showL m a 1 ++ rest) (b := 32) f1 (by omega) f3
   have S1 := (List.suffix_cons _ _).trans ((List.suffix_append _ _).trans hS)
   have S2 := (List.suffix_cons _ _).trans ((List.suffix_append _ _).trans S1)
   have v1 : Vb (32 :: (asg n ++ 32 :: (showL m a 1 ++ rest))) = asg n ++ 32 :: (showL m a 1 ++ rest) := by rw [Vb_sp, t3]
   have hA := name_read ht hS (sep32 _)
   rw [v1] at hA
   have hL : ∀ k, 1 ≤ k → Lo k (asg n ++ 32 :: (showL m a 1 ++ rest)) := fun k hk => ⟨0, 0, by rw [t1]; exact f5, by omega⟩
   obtain ⟨d, l, hd, hg⟩ := show_head ha 1
   have hne : ¬ (tk (asg n ++ 32 :: (showL m a 1 ++ rest))).toList = [63] := by
    rw [t1, Go.ByteArray.toList_eq]
    intro e
    have e' : asg n = [63] := e
    rw [e'] at f4
    have : arith_assignment.f 1 ⟨#[63]⟩ = some (0, false) := by kernel_rfl
    have f4' : arith_assignment.f 1 ⟨#[63]⟩ = some (n, true) := f4
    rw [this] at f4'
    simp at f4'
   have hsec := E.second_stop (hA.lift 3 (by omega) (hL 3 (by omega))) hne
   refine E.first_go (y := a) (V := Vb rest) S1 hsec (by rw [t1]; exact f4) rfl (name_bare ht hS) ?_
   rw [t2, hd]
   have hS2 := S2
   have hB := ih.2.2.2 rest S2 hs hq
   rw [hd] at hB
   rw [show Vb (d :: l ++ rest) = _ from Vb_good hg.1]
   exact hB
  ·rw [hx] at hh
   omega
  ·rw [hx] at hh
   omega
  ·rw [hx] at hh
   omega
end Go.Proofs.YtglmdfddgmkmaaaDoor.Q
end
section
namespace Go.Proofs.YtglmdfddgmkmaaaDoor.Q
open Go.RowKit Go.Proofs.YtglmdfddgmkmaaaDoorW.PrintWords
set_option linter.unusedVariables false
set_option linter.unusedSimpArgs false
theorem wrap_id {z : Int} (h0 : -9223372036854775808 ≤ z) (h1 : z ≤ 9223372036854775807) : wrap64 z = z := by
 simp only [wrap64, IntKind.wrap]
 omega
/-- A property of trees that the reader's steps keep. -/
structure Shut (Q : S26 → Prop) : Prop where
 num : ∀ t n, arith_number.f (t.size + 3) t = some (n, 0) → Q ⟨1, n, noName, []⟩
 var : ∀ t, nameB t = true → Q ⟨2, 0, t, []⟩
 un : ∀ t op y, arith_unary.f t = some op → op ≠ 0 → Q y → Q ⟨op, 0, noName, [y]⟩
 bin : ∀ t op (n : Nat) x y, arith_binary.f t = some (op, (n : Int)) → 1 ≤ n → Q x → Q y → Q ⟨op, 0, noName, [x, y]⟩
 cond : ∀ x y z, Q x → Q y → Q z → Q ⟨25, 0, noName, [x, y, z]⟩
 set : ∀ t op x y, arith_assignment.f 1 t = some (op, true) → x.f0 = 2 → Q x → Q y → Q ⟨26, op, x.f2, [y]⟩
def Good (Q : S26 → Prop) (s : ByteArray) (d : Nat) (L : List UInt8) (r : PRes) : Prop :=
 match r with
 | none => True
 | some (.error (q, e)) => e = 6 ∨ e = 10 ∨ e = 14
 | some (.ok (x, p, t)) => ∃ M, At s p M ∧ t = tk M ∧ nb M ∧ M.length + d ≤ L.length ∧ Q x
theorem Good.bind {Q : S26 → Prop} {s d L d' L'} {a : PRes} {f : S26 → Nat → ByteArray → PRes} (h : Good Q s d L a) (hf : ∀ x p M, At s p M → nb M → M.length + d ≤ L.length → Q x → Good Q s d' L' (f x p (tk M))) : Good Q s d' L' (ebind a f) := by
 match a, h with
 | none, _ => exact True.intro
 | some (.ok (x, p, t)), h =>
  obtain ⟨M, h1, rfl, h2, h3, h4⟩ := h
  exact hf x p M h1 h2 h3 h4
 | some (.error (q, e)), h => exact h
end Go.Proofs.YtglmdfddgmkmaaaDoor.Q
end
section
namespace Go.Proofs.YtglmdfddgmkmaaaDoor.Q
open Go.RowKit Go.Proofs.YtglmdfddgmkmaaaDoorW.PrintWords
set_option linter.unusedVariables false
set_option linter.unusedSimpArgs false
inductive W3 : S26 → Prop where
 | mk (x : S26) : x.f3.length ≤ 3 → (∀ y ∈ x.f3, W3 y) → W3 x
theorem common {P : Nat → S26 → Prop} (up : ∀ k y, P k y → P (k + 1) y) : ∀ (l : List S26), (∀ y ∈ l, ∃ k, P k y) → ∃ K, ∀ k, K ≤ k → ∀ y ∈ l, P k y
 | [], _ => ⟨0, fun k _ y h => by cases h⟩
 | a :: l, h => by
  obtain ⟨K, hK⟩ := common up l (fun y hy => h y (List.mem_cons_of_mem _ hy))
  obtain ⟨j, hj⟩ := h a (List.mem_cons_self ..)
  have ups : ∀ n, j ≤ n → P n a := by
   intro n hn
   induction hn with
   | refl => exact hj
   | step _ ih => exact up _ _ ih
  refine ⟨K + j, fun k hk y hy => ?_⟩
  rcases List.mem_cons.mp hy with rfl | hy
  ·exact ups k (by omega)
  ·exact hK k (by omega) y hy
theorem rd_mem {xs : List S26} {i : Nat} (h : i < xs.length) : rd_T26 xs (i : Int) ∈ xs := by
 have : rd_T26 xs (i : Int) = xs[i] := by simp [rd_T26, List.getD_eq_getElem?_getD, h]
 rw [this]
 exact List.getElem_mem h
theorem same_self {x : S26} (h : W3 x) : ∃ K, ∀ k, K ≤ k → jobshellref05_Same.f k x.f0 x.f1 x.f2 x.f3 x.f0 x.f1 x.f2 x.f3 = some true := by
 have up : ∀ {x y : S26} {k n b}, k ≤ n → jobshellref05_Same.f k x.f0 x.f1 x.f2 x.f3 y.f0 y.f1 y.f2 y.f3 = some b → jobshellref05_Same.f n x.f0 x.f1 x.f2 x.f3 y.f0 y.f1 y.f2 y.f3 = some b := by
  intro x y k n b hk h
  induction hk with
  | refl => exact h
  | step _ ih => exact jobshellref05_Same.mono _ _ _ _ _ _ _ _ _ _ ih
 suffices h : ∃ K, jobshellref05_Same.f K x.f0 x.f1 x.f2 x.f3 x.f0 x.f1 x.f2 x.f3 = some true by
  obtain ⟨K, hK⟩ := h
  exact ⟨K, fun k hk => up hk hK⟩
 induction h with
 | mk x hl _ ih =>
  obtain ⟨K, hK⟩ := common (P := fun k y => jobshellref05_Same.f k y.f0 y.f1 y.f2 y.f3 y.f0 y.f1 y.f2 y.f3 = some true) (fun k y h => up (Nat.le_succ k) h) x.f3 ih
  have loop : ∀ (d i : Nat), i + d = x.f3.length → jobshellref05_Same.l0 (K + d + 1) (i : Int) x.f0 x.f1 x.f2 x.f3 x.f0 x.f1 x.f2 x.f3 = some true := by
   intro d
   induction d with
   | zero =>
    intro i hi
    rw [jobshellref05_Same.l0, if_neg (by omega)]
   | succ d ihd =>
    intro i hi
    have hn := hK (K + (d + 1)) (by omega) (rd_T26 x.f3 (i : Int)) (rd_mem (by omega))
    rw [jobshellref05_Same.l0, if_pos (by omega), if_pos (by omega), if_pos (by omega), hn, Option.bind_some]
    have hw : wrap64 ((i : Int) + 1) = ((i + 1 : Nat) : Int) := by rw [wrap_id (by omega) (by omega)]; omega
    rw [hw, if_pos rfl, show K + (d + 1) = K + d + 1 by omega]
    exact ihd (i + 1) (by omega)
  refine ⟨K + x.f3.length + 1 + 1 + 1, ?_⟩
  rw [jobshellref05_Same.f, if_pos rfl, if_pos rfl, if_pos rfl, jobshellref05_Same.j0, if_neg (by simp)]
  have hn := loop x.f3.length 0 (by omega)
  rw [show ((0 : Nat) : Int) = 0 from rfl] at hn
  exact hn
end Go.Proofs.YtglmdfddgmkmaaaDoor.Q
end
section
namespace Go.Proofs.YtglmdfddgmkmaaaDoor.Q
open Go.RowKit Go.Proofs.YtglmdfddgmkmaaaDoorW.PrintWords
set_option linter.unusedVariables false
set_option linter.unusedSimpArgs false
section
variable {s : ByteArray}
theorem Eerr.level {n L e} (hn : n ≤ 13) (h : E s .operand L (.error e)) : E s (.level n) L (.error e) := by
 obtain ⟨d, hd⟩ : ∃ d, n + d = 13 := ⟨13 - n, by omega⟩
 clear hn
 induction d generalizing n with
 | zero =>
  obtain rfl : n = 13 := by omega
  exact h.level13
 | succ d ih =>
  obtain ⟨k, hk⟩ := ih (n := n + 1) (by omega)
  refine ⟨k + 1, ?_⟩
  rw [pr, if_neg (by omega), hk]
  rfl
theorem Eerr.first {L e} (h : E s .operand L (.error e)) : E s .first L (.error e) := by
 obtain ⟨k, hk⟩ := Eerr.level (n := 3) (by omega) h
 refine ⟨k + 2, ?_⟩
 rw [pr, pr, hk]
 rfl
end
theorem start_list (s : ByteArray) : At s (nextP s 0 ⟨#[]⟩) (Vb (sl s)) ∧ nextT s 0 ⟨#[]⟩ = tk (Vb (sl s)) := by
 have h0 : At s 0 (sl s) := ⟨Nat.zero_le _, rfl⟩
 have h2 : At s (nextP s 0 ⟨#[]⟩) (Vb (sl s)) := by
  unfold nextP
  rw [show 0 + (⟨#[]⟩ : ByteArray).size = 0 from rfl, skipB_list s 0 (Nat.zero_le _), List.drop_zero]
  exact At.adv (A := (sl s).takeWhile blkB) (B := Vb (sl s)) (by rw [List.takeWhile_append_dropWhile]; exact h0)
 refine ⟨h2, ?_⟩
 unfold nextT
 rw [tokN_list]
 have e : s.extract (nextP s 0 ⟨#[]⟩) s.size = ⟨(Vb (sl s)).toArray⟩ := by
  rw [extract_list, h2.2]
  have := h2.len
  rw [List.take_of_length_le (by omega)]
 rw [e, extract_list]
 simp only [sl, List.drop_zero, Nat.sub_zero]
 rfl
theorem pl_of {s p L} (h : At s p L) : p = pl s L := by
 have := h.len
 unfold pl
 omega
/-- What Parse tells, once the reader has ended. -/
def told (k : Nat) : Except (Nat × Int) (S26 × Nat × ByteArray) → Option PR
 | .error (p, er) => some (0, 0, ⟨#[]⟩, [], (p : Int), er)
 | .ok (x, p, t) => if ¬ t.toList = [] then some (0, 0, ⟨#[]⟩, [], (p : Int), 6) else
  match arith_levels.f k x.f0 x.f1 x.f2 x.f3 with
  | none => none
  | some n => if 32 < n then some (0, 0, ⟨#[]⟩, [], 0, 5) else some (x.f0, x.f1, x.f2, x.f3, 0, 0)
theorem told_right (k : Nat) (x : S26) (p : Nat) (t : ByteArray) (h : t.toList = []) {n : Int} (hl : arith_levels.f k x.f0 x.f1 x.f2 x.f3 = some n) (hn : ¬ 32 < n) : told k (.ok (x, p, t)) = some (x.f0, x.f1, x.f2, x.f3, 0, 0) := by
 unfold told
 simp only
 rw [if_neg (by simp [h]), hl]
 simp only
 rw [if_neg hn]
theorem parse_pr {s : ByteArray} (hs : s.size ≤ 4096) (h0 : Vb (sl s) ≠ []) {r} (h : E s .first (Vb (sl s)) r) : ∃ K, ∀ k, K ≤ k → parseP s k = told k r := by
 obtain ⟨K, hK⟩ := h
 obtain ⟨h1, h2⟩ := start_list s
 refine ⟨K, fun k hk => ?_⟩
 unfold parseP
 have ht : ¬ (nextT s 0 ⟨#[]⟩).toList = [] := by
  rw [h2, Go.ByteArray.toList_eq]
  intro e
  have h3 := tk_size (Vb (sl s))
  have h4 := lexN_pos h0
  have : (tk (Vb (sl s))).size = 0 := by
   show (tk (Vb (sl s))).data.toList.length = 0
   rw [e]
   rfl
  omega
 rw [if_neg (by omega), if_neg ht, h2, pl_of h1, pr_up s hk hK]
 match r with
 | .error (p, er) => rfl
 | .ok (x, p, t) => rfl
theorem levels_up {x : S26} {k n r} (h : k ≤ n) (hr : arith_levels.f k x.f0 x.f1 x.f2 x.f3 = some r) : arith_levels.f n x.f0 x.f1 x.f2 x.f3 = some r := arith_levels.up x h hr
end Go.Proofs.YtglmdfddgmkmaaaDoor.Q
end
section
namespace Go.Proofs.YtglmdfddgmkmaaaDoor.Q
open Go.RowKit Go.Proofs.YtglmdfddgmkmaaaDoorW.PrintWords
set_option linter.unusedVariables false
set_option linter.unusedSimpArgs false
def SmallAt (n : Nat) : Prop := ∀ (x : S26) (a : Int) (k : Nat), -1 ≤ a → a ≤ 60 → 80 * n + 3 ≤ k → ∃ r, jobshellref05_small.f k x.f0 x.f1 x.f2 x.f3 a (n : Int) = some r ∧ -1 ≤ r ∧ (r ≤ a - 1 ∨ r = -1)
theorem wrap_of {z : Int} (h0 : -9223372036854775808 ≤ z) (h1 : z ≤ 9223372036854775807) : wrap64 z = z := by
 simp only [wrap64, IntKind.wrap]
 omega
theorem small_loop (n : Nat) (hn : n ≤ 40) (ih : SmallAt n) (x : S26) : ∀ (c : Nat) (b : Int) (i m : Nat), -1 ≤ b → b + 1 ≤ c → (i : Int) + b ≤ 60 → c + (80 * n + 3) + 2 ≤ m → ∃ r, jobshellref05_small.l0 m b ((n + 1 : Nat) : Int) (i : Int) x.f0 x.f1 x.f2 x.f3 = some r ∧ -1 ≤ r ∧ r ≤ b := by
 intro c
 induction c with
 | zero =>
  intro b i m hb0 hb1 hi hm
  obtain ⟨m, rfl⟩ : ∃ k', m = k' + 1 := ⟨m - 1, by omega⟩
  rw [jobshellref05_small.l0]
  have hb : ¬ b ≥ 0 := by omega
  by_cases hlt : (i : Int) < (x.f3.length : Int)
  ·rw [if_pos hlt, if_neg hb]
   exact ⟨b, rfl, hb0, Int.le_refl _⟩
  ·rw [if_neg hlt]
   exact ⟨b, rfl, hb0, Int.le_refl _⟩
 | succ c ihc =>
  intro b i m hb0 hb1 hi hm
  obtain ⟨m, rfl⟩ : ∃ k', m = k' + 1 := ⟨m - 1, by omega⟩
  rw [jobshellref05_small.l0]
  by_cases hlt : (i : Int) < (x.f3.length : Int)
  ·rw [if_pos hlt]
   by_cases hb : b ≥ 0
   ·have hi0 : (0 : Int) ≤ (i : Int) := Int.natCast_nonneg i
    rw [if_pos hb, if_pos hi0]
    have hw : wrap64 (((n + 1 : Nat) : Int) - 1) = (n : Int) := by
     rw [wrap_of (by omega) (by omega)]
     omega
    obtain ⟨t, ht, ht0, ht1⟩ := ih (rd_T26 x.f3 i) b m hb0 (by omega) (by omega)
    rw [hw, ht, Option.bind_some]
    have hw2 : wrap64 ((i : Int) + 1) = ((i + 1 : Nat) : Int) := by
     rw [wrap_of (by omega) (by omega)]
     omega
    rw [hw2]
    obtain ⟨r, hr, hr0, hr1⟩ := ihc t (i + 1) m ht0 (by omega) (by omega) (by omega)
    exact ⟨r, hr, hr0, by omega⟩
   ·rw [if_neg hb]
    exact ⟨b, rfl, hb0, Int.le_refl _⟩
  ·rw [if_neg hlt]
   exact ⟨b, rfl, hb0, Int.le_refl _⟩
theorem small_j0 (k : Nat) (a l : Int) (x : S26) : jobshellref05_small.j0 (k + 1) a l true x.f0 x.f1 x.f2 x.f3 = some (-1) := by
 rw [jobshellref05_small.j0, if_pos rfl]
theorem small_step (n : Nat) (hn : n < 40) (ih : SmallAt n) : SmallAt (n + 1) := by
 intro x a k h0 h1 hk
 obtain ⟨k, rfl⟩ : ∃ k', k = k' + 2 := ⟨k - 2, by omega⟩
 rw [jobshellref05_small.f]
 by_cases ha : a < 1
 ·rw [if_pos ha, small_j0]
  exact ⟨-1, rfl, Int.le_refl _, .inr rfl⟩
 ·have hl : ¬ (((n + 1 : Nat) : Int) < 1) := by omega
  rw [if_neg ha, if_neg hl]
  cases hd : decide ((x.f2.size : Int) > 60)
  ·rw [jobshellref05_small.j0, if_neg Bool.false_ne_true, wrap_of (show -9223372036854775808 ≤ a - 1 by omega) (by omega)]
   obtain ⟨r, hr, hr0, hr1⟩ := small_loop n (by omega) ih x 60 (a - 1) 0 k (by omega) (by omega) (by omega) (by omega)
   exact ⟨r, hr, hr0, .inl hr1⟩
  ·rw [small_j0]
   exact ⟨-1, rfl, Int.le_refl _, .inr rfl⟩
theorem small_zero : SmallAt 0 := by
 intro x a k h0 h1 hk
 obtain ⟨k, rfl⟩ : ∃ k', k = k' + 2 := ⟨k - 2, by omega⟩
 rw [jobshellref05_small.f]
 refine ⟨-1, ?_, Int.le_refl _, .inr rfl⟩
 split
 ·rw [small_j0]
 ·rw [if_pos (by omega), small_j0]
theorem small_at : ∀ n : Nat, n ≤ 40 → SmallAt n
 | 0, _ => small_zero
 | n + 1, h => small_step n (by omega) (small_at n (by omega))
theorem Small_eq (x : S26) (k : Nat) (hk : 3300 ≤ k) : ∃ b, jobshellref05_Small.f k x.f0 x.f1 x.f2 x.f3 60 = some b := by
 obtain ⟨r, hr, _, _⟩ := small_at 40 (Nat.le_refl _) x 60 k (by omega) (by omega) (by omega)
 unfold jobshellref05_Small.f
 rw [show ((40 : Nat) : Int) = 40 from rfl] at hr
 rw [hr]
 exact ⟨_, rfl⟩
theorem awake_at (k : Nat) (hk : 60 ≤ k) : jobshelllaw05_awake.f k = some true := awake_up 60 k true awake_eval hk
end Go.Proofs.YtglmdfddgmkmaaaDoor.Q
end
section
namespace Go.Proofs.YtglmdfddgmkmaaaDoor.Q
open Go.RowKit Go.Proofs.YtglmdfddgmkmaaaDoorW.PrintWords
set_option linter.unusedVariables false
set_option linter.unusedSimpArgs false
def kidsE (op : Int) : Int := if op = 1 ∨ op = 2 then 0 else if (3 ≤ op ∧ op ≤ 6) ∨ op = 26 then 1 else if 7 ≤ op ∧ op ≤ 24 then 2 else if op = 25 then 3 else -1
theorem arith_kids_eq (k : Nat) (op : Int) : arith_kids.f (k + 2) op = some (kidsE op) := by
 unfold arith_kids.f kidsE
 simp only [arith_kids.j0, arith_kids.j1]
 repeat' split
 all_goals first | rfl | (exfalso; simp_all; done) | (exfalso; simp_all; omega)
def asgE (n : Int) : Bool := n == 0 || (decide (7 ≤ n) && decide (n ≤ 13)) || (decide (20 ≤ n) && decide (n ≤ 22))
theorem assigns_eq (n : Int) : arith_assigns.f n = some (asgE n) := by
 unfold arith_assigns.f asgE
 repeat' split
 all_goals first | (simp_all; done) | (simp_all; omega)
def namedE (op : Int) : Bool := op == 2 || op == 26
def rightE (op n : Int) : Bool := if op = 1 then decide (n ≥ 0) else if op = 26 then asgE n else n == 0
def partE (op n : Int) (nm : ByteArray) (l : Nat) : Int :=
 if (decide (kidsE op = (l : Int)) && rightE op n && (namedE op == (nm.toList != []))) = true then (if (namedE op && !nameB nm) = true then 10 else 0) else 1
theorem arith_part_eq (k : Nat) (op n : Int) (nm : ByteArray) (l : List S26) : arith_part.f (k + 5) op n nm l = some (partE op n nm l.length) := by
 have h1 : ∀ b, arith_part.j0 (k + 5) b op n nm l = arith_part.j1 (k + 4) b (rightE op n) op n nm l := by
  intro b
  rw [arith_part.j0, assigns_eq]
  unfold rightE
  split
  ·rfl
  ·split <;> rfl
 have h2 : ∀ b c, arith_part.j1 (k + 4) b c op n nm l = arith_part.j2 (k + 3) b (!(decide (kidsE op = (l.length : Int)) && c && (b == (nm.toList != [])))) op n nm l := by
  intro b c
  rw [arith_part.j1, arith_kids_eq]
  simp only [Option.bind_some]
  split
  ·rename_i h
   cases c
   ·simp
   ·simp only [if_true, h]
    cases b <;> cases (nm.toList != []) <;> simp
  ·rename_i h
   simp [h]
 have h3 : ∀ b c, arith_part.j2 (k + 3) b (!c) op n nm l = some (if c = true then (if (b && !nameB nm) = true then 10 else 0) else 1) := by
  intro b c
  rw [arith_part.j2]
  cases c
  ·simp
  ·cases b
   ·simp
   ·simp only [chars_Name.f, Option.bind_some]
    cases nameB nm <;> simp
 unfold arith_part.f partE
 have hn : namedE op = if op = 2 then true else (op == 26) := by
  unfold namedE
  split <;> simp_all
 by_cases h : op = 2
 ·rw [if_pos h, h1, h2, h3, hn, if_pos h]
 ·rw [if_neg h, h1, h2, h3, hn, if_neg h]
def firstE (g : S26 → Int) : List S26 → Int
 | [] => 0
 | y :: ys => if g y = 0 then firstE g ys else g y
/-- The first error of a tree that has m levels left. -/
def validE : Nat → S26 → Int
 | 0, _ => 5
 | m + 1, x => if partE x.f0 x.f1 x.f2 x.f3.length = 0 then firstE (validE m) x.f3 else partE x.f0 x.f1 x.f2 x.f3.length
theorem part_len {op n : Int} {nm : ByteArray} {l : Nat} (h : partE op n nm l = 0) : l ≤ 3 := by
 unfold partE at h
 split at h
 ·rename_i hc
  have hk : kidsE op = (l : Int) := by simp at hc; exact hc.1.1
  unfold kidsE at hk
  repeat' split at hk
  all_goals omega
 ·omega
theorem rd_at {xs ys : List S26} {y : S26} {i : Nat} (h : xs.drop i = y :: ys) : rd_T26 xs (i : Int) = y ∧ i < xs.length ∧ xs.drop (i + 1) = ys := by
 have hi : i < xs.length := by
  rcases Nat.lt_or_ge i xs.length with h1 | h1
  ·exact h1
  ·rw [List.drop_eq_nil_of_le h1] at h
   simp at h
 rw [List.drop_eq_getElem_cons hi] at h
 simp only [List.cons.injEq] at h
 refine ⟨?_, hi, h.2⟩
 simp [rd_T26, List.getD_eq_getElem?_getD, hi, h.1]
theorem wrap_succ {i : Nat} (h : i < 1000) : wrap64 ((i : Int) + 1) = ((i + 1 : Nat) : Int) := by
 simp only [wrap64, IntKind.wrap]
 omega
theorem arith_valid_eq : ∀ (m : Nat) (x : S26) (k : Nat), m ≤ 32 → 10 * m + 10 ≤ k → arith_valid.f k x.f0 x.f1 x.f2 x.f3 ((32 - m : Nat) : Int) = some (validE m x)
 | 0, x, k, _, hk => by
  obtain ⟨k, rfl⟩ : ∃ k', k = k' + 1 := ⟨k - 1, by omega⟩
  rw [arith_valid.f, if_pos (by omega)]
  rfl
 | m + 1, x, k, hm, hk => by
  obtain ⟨k, rfl⟩ : ∃ k', k = k' + 6 := ⟨k - 6, by omega⟩
  have hl : ∀ (ys : List S26) (i n : Nat), x.f3.drop i = ys → x.f3.length ≤ 3 → i ≤ 3 → ys.length + (10 * m + 10) + 1 ≤ n → arith_valid.l0 n ((32 - (m + 1) : Nat) : Int) x.f3 (x.f3.length : Int) (i : Int) = some (firstE (validE m) ys) := by
   intro ys
   induction ys with
   | nil =>
    intro i n hd h3 hi hn
    obtain ⟨n, rfl⟩ : ∃ k', n = k' + 1 := ⟨n - 1, by omega⟩
    have : x.f3.length ≤ i := by
     have := congrArg List.length hd
     simp at this
     omega
    rw [arith_valid.l0, if_neg (by omega)]
    rfl
   | cons y ys ih =>
    intro i n hd h3 hi hn
    obtain ⟨n, rfl⟩ : ∃ k', n = k' + 1 := ⟨n - 1, by omega⟩
    obtain ⟨e1, e2, e3⟩ := rd_at hd
    simp only [List.length_cons] at hn
    rw [arith_valid.l0, if_pos (by omega), if_pos (by omega), if_pos (by omega), e1]
    have hw : wrap64 (((32 - (m + 1) : Nat) : Int) + 1) = ((32 - m : Nat) : Int) := by
     simp only [wrap64, IntKind.wrap]
     omega
    rw [hw, arith_valid_eq m y n (by omega) (by omega), wrap_succ (by omega)]
    simp only [Option.bind_some]
    unfold firstE
    split
    ·exact ih (i + 1) n e3 h3 (by omega) (by omega)
    ·rfl
  rw [arith_valid.f, if_neg (by omega), arith_part_eq]
  simp only [Option.bind_some]
  unfold validE
  split
  ·rename_i hp
   exact hl x.f3 0 (k + 5) rfl (part_len hp) (by omega) (by have := part_len hp; omega)
  ·rfl
end Go.Proofs.YtglmdfddgmkmaaaDoor.Q
end
section
namespace Go.Proofs.YtglmdfddgmkmaaaDoor.Q
open Go.RowKit Go.Proofs.YtglmdfddgmkmaaaDoorW.PrintWords
set_option linter.unusedVariables false
set_option linter.unusedSimpArgs false
abbrev ofL (l : List UInt8) : ByteArray := ⟨l.toArray⟩
theorem ofL_app (a b : List UInt8) : ofL a ++ ofL b = ofL (a ++ b) := by
 apply ByteArray.ext
 rw [ByteArray.data_append]
 simp
theorem ofL_size (a : List UInt8) : (ofL a).size = a.length := rfl
theorem sign_eq {op : Int} (h0 : 0 ≤ op) (h1 : op ≤ 24) : arith_sign.f op = some (ofL (sg op)) := by
 have : op = 0 ∨ op = 1 ∨ op = 2 ∨ op = 3 ∨ op = 4 ∨ op = 5 ∨ op = 6 ∨ op = 7 ∨ op = 8 ∨ op = 9 ∨ op = 10 ∨ op = 11 ∨ op = 12 ∨ op = 13 ∨ op = 14 ∨ op = 15 ∨ op = 16 ∨ op = 17 ∨ op = 18 ∨ op = 19 ∨ op = 20 ∨ op = 21 ∨ op = 22 ∨ op = 23 ∨ op = 24 := by omega
 rcases this with rfl | rfl | rfl | rfl | rfl | rfl | rfl | rfl | rfl | rfl | rfl | rfl | rfl | rfl | rfl | rfl | rfl | rfl | rfl | rfl | rfl | rfl | rfl | rfl | rfl <;> rfl
theorem height_eq (k : Nat) {op : Int} (h0 : 1 ≤ op) (h1 : op ≤ 26) : arith_height.f (k + 3) op = some (hgt op : Int) := by
 have j1f : ∀ k, arith_height.j1 (k + 1) op true = some 13 := fun k => by rw [arith_height.j1, if_pos rfl]
 by_cases hb : 7 ≤ op ∧ op ≤ 24
 ·obtain ⟨f1, f2, f3, f4, f5, f6⟩ := bin_facts hb.1 hb.2
  have hj : arith_height.j1 (k + 2) op false = some (hgt op : Int) := by
   rw [arith_height.j1, if_neg (by simp), sign_eq (by omega) (by omega), Option.bind_some, f4, Option.bind_some]
  have e : ∀ n : Int, n < 7 → (op == n) = false := fun n hn => by simp; omega
  unfold arith_height.f
  rw [if_neg (by omega), if_neg (by omega), if_neg (by omega), arith_height.j0, e 2 (by omega), if_neg (by simp), if_neg (by omega), if_neg (by omega), if_neg (by omega), e 6 (by omega)]
  exact hj
 ·have : op = 1 ∨ op = 2 ∨ op = 3 ∨ op = 4 ∨ op = 5 ∨ op = 6 ∨ op = 25 ∨ op = 26 := by omega
  rcases this with rfl | rfl | rfl | rfl | rfl | rfl | rfl | rfl
  all_goals
   unfold arith_height.f
   simp [arith_height.j0, arith_height.j1, hgt]
theorem name_len {t : ByteArray} (h : nameB t = true) : t.size ≤ 32 := by
 unfold nameB at h
 simp only [Bool.and_eq_true, decide_eq_true_eq] at h
 exact h.1.2
theorem dd_len : ∀ (d u : Nat), u < 10 ^ (d + 1) → (Lib.decDigits u).length ≤ d + 1
 | 0, u, h => by rw [Lib.decDigits_one (by omega)]; simp
 | d + 1, u, h => by
  by_cases hu : u < 10
  ·rw [Lib.decDigits_one hu]; simp
  ·have := dd_len d (u / 10) (by rw [Nat.pow_succ] at h; omega)
   rw [dd_step u hu, List.length_append]
   simp
   omega
theorem itoa_len {n : Int} (h0 : 0 ≤ n) (h1 : n ≤ 9223372036854775807) : (itoaL n).length ≤ 19 := by
 rw [itoa_eq h0]
 exact dd_len 18 n.toNat (by
  have : (10 : Nat) ^ (18 + 1) = 10000000000000000000 := by decide
  omega)
theorem asg_len {n : Int} (h : asgB n = true) : (asg n).length ≤ 3 := (asg_facts h).2.1
theorem showL_le (m : Nat) (x : S26) (n : Nat) : (showL (m + 1) x n).length ≤ (bodyL m x).length + 2 := by
 rw [showL_eq]
 split
 ·simp
 ·omega
theorem show_len : ∀ {m : Nat} {x : S26}, V m x → ∀ n, (showL m x n).length + 30 ≤ 60 * 3 ^ m := by
 intro m x h
 induction h with
 | num m n h0 h1 =>
  intro l
  have h2 := showL_le m ⟨1, n, noName, []⟩ l
  rw [body_num] at h2
  have h3 := itoa_len h0 h1
  have h4 : 1 ≤ 3 ^ m := Nat.one_le_pow _ _ (by decide)
  rw [Nat.pow_succ]
  omega
 | var m t h =>
  intro l
  have h2 := showL_le m ⟨2, 0, t, []⟩ l
  rw [body_var, sl_length] at h2
  have h3 := name_len h
  have h4 : 1 ≤ 3 ^ m := Nat.one_le_pow _ _ (by decide)
  rw [Nat.pow_succ]
  omega
 | un m op a h0 h1 _ ih =>
  intro l
  have h2 := showL_le m ⟨op, 0, noName, [a]⟩ l
  obtain ⟨b, h3, _⟩ := un_facts h0 h1
  rw [body_un _ _ _ h0 h1, h3] at h2
  have h4 := ih 13
  simp only [List.length_append, List.length_cons, List.length_nil] at h2
  rw [Nat.pow_succ]
  omega
 | bin m op a b h0 h1 _ _ iha ihb =>
  intro l
  have h2 := showL_le m ⟨op, 0, noName, [a, b]⟩ l
  obtain ⟨_, h3, _⟩ := bin_facts h0 h1
  rw [body_bin _ _ _ _ h0 h1] at h2
  have h4 := iha (hgt op)
  have h5 := ihb (hgt op + 1)
  simp only [List.length_append, List.length_cons] at h2
  rw [Nat.pow_succ]
  omega
 | cond m a b c _ _ _ iha ihb ihc =>
  intro l
  have h2 := showL_le m ⟨25, 0, noName, [a, b, c]⟩ l
  rw [body_cond] at h2
  have h4 := iha 3
  have h5 := ihb 1
  have h6 := ihc 2
  simp only [List.length_append, List.length_cons] at h2
  rw [Nat.pow_succ]
  omega
 | set m n t a h0 h1 _ ih =>
  intro l
  have h2 := showL_le m ⟨26, n, t, [a]⟩ l
  rw [body_set] at h2
  have h3 := asg_len h0
  have h4 := ih 1
  have h5 := name_len h1
  simp only [List.length_append, List.length_cons, sl_length] at h2
  rw [Nat.pow_succ]
  omega
theorem show_j0 (k : Nat) (least h : Nat) (B : List UInt8) (hB : B.length ≤ 9000000000000000000) : arith_show.j0 (k + 1) (least : Int) (h : Int) (ofL B) = some (ofL (if h < least then 40 :: (B ++ [41]) else B)) := by
 have h1 : ((⟨#[40]⟩ : ByteArray) ++ ofL B).size = 1 + B.length := by rw [ByteArray.size_append]; rfl
 have h2 : (ofL B).size = B.length := rfl
 rw [arith_show.j0]
 by_cases hc : h < least
 ·rw [if_pos (by omega), if_pos hc, if_pos (by omega), if_pos (by omega), show (⟨#[40]⟩ : ByteArray) = ofL [40] from rfl, show (⟨#[41]⟩ : ByteArray) = ofL [41] from rfl, ofL_app, ofL_app]
  rfl
 ·rw [if_neg (by omega), if_neg hc]
theorem show_is : ∀ {m : Nat} {x : S26}, V m x → m ≤ 32 → ∀ (k least : Nat), 5 * m + 5 ≤ k → arith_show.f k x.f0 x.f1 x.f2 x.f3 (least : Int) = some (ofL (showL m x least)) := by
 intro m x h
 have p32 : ∀ m, m ≤ 32 → 60 * 3 ^ m ≤ 120000000000000000 := by
  intro m hm
  have h1 : (3 : Nat) ^ m ≤ 3 ^ 32 := Nat.pow_le_pow_right (by decide) hm
  have h2 : (3 : Nat) ^ 32 = 1853020188851841 := by decide
  omega
 have body_le : ∀ {m : Nat} {x : S26}, V (m + 1) x → m + 1 ≤ 32 → (bodyL m x).length ≤ 120000000000000000 := by
  intro m x hV hm
  have h1 := show_len hV 0
  have h2 := p32 (m + 1) hm
  have h3 : (bodyL m x).length ≤ (showL (m + 1) x 0).length := by
   rw [showL_eq]
   split
   ·simp
    omega
   ·omega
  omega
 induction h with
 | num m n h0 h1 =>
  intro hm k least hk
  obtain ⟨k, rfl⟩ : ∃ j, k = j + 4 := ⟨k - 4, by omega⟩
  have hb := body_le (V.num m n h0 h1) hm
  rw [body_num] at hb
  have hi : strconv_Itoa_81.f n = some (ofL (itoaL n)) := by
   unfold strconv_Itoa_81.f
   rw [if_pos ⟨by omega, by omega⟩]
   rfl
  show arith_show.f (k + 4) 1 n noName [] (least : Int) = _
  have hj := show_j0 (k + 2) least 14 (itoaL n) (by omega)
  rw [showL_eq, body_num, arith_show.f, height_eq k (by omega) (by omega), Option.bind_some, show (hgt 1 : Int) = 14 from rfl, if_neg (by omega), if_neg (by omega), if_neg (by omega), if_pos rfl, if_pos rfl, hi, Option.bind_some]
  exact hj
 | var m t h =>
  intro hm k least hk
  obtain ⟨k, rfl⟩ : ∃ j, k = j + 4 := ⟨k - 4, by omega⟩
  have hb := body_le (V.var m t h) hm
  rw [body_var] at hb
  have hj := show_j0 (k + 2) least 14 (sl t) (by omega)
  show arith_show.f (k + 4) 2 0 t [] (least : Int) = _
  rw [showL_eq, body_var, arith_show.f, height_eq k (by omega) (by omega), Option.bind_some, show (hgt 2 : Int) = 14 from rfl, if_neg (by omega), if_neg (by omega), if_neg (by omega), if_pos rfl, if_neg (by omega)]
  exact hj
 | un m op a h0 h1 hv ih =>
  intro hm k least hk
  obtain ⟨k, rfl⟩ : ∃ j, k = j + 4 := ⟨k - 4, by omega⟩
  have hb := body_le (V.un m op a h0 h1 hv) hm
  obtain ⟨b, f1, f2, f3, f4, f5⟩ := un_facts h0 h1
  have hr := ih (by omega) (k + 3) 13 (by omega)
  have e : bodyL m ⟨op, 0, noName, [a]⟩ = sg op ++ showL m a 13 := body_un m op a h0 h1
  rw [e] at hb
  have hsz : (ofL (sg op)).size + (ofL (showL m a 13)).size ≤ 9223372036854775807 := by
   rw [List.length_append] at hb
   rw [ofL_size, ofL_size]
   omega
  have hj := show_j0 (k + 2) least 13 (sg op ++ showL m a 13) (by omega)
  have hrd : rd_T26 [a] 0 = a := rfl
  have hh : (hgt op : Int) = 13 := by rw [f5]; rfl
  show arith_show.f (k + 4) op 0 noName [a] (least : Int) = _
  rw [showL_eq, e, arith_show.f, height_eq k (by omega) (by omega), Option.bind_some, hh, if_neg (by omega), if_neg (by omega), if_pos rfl, sign_eq (by omega) (by omega), Option.bind_some, if_pos (by simp), hrd, show (13 : Int) = ((13 : Nat) : Int) from rfl, hr, Option.bind_some, if_pos hsz, ofL_app]
  show arith_show.j0 (k + 3) (least : Int) ((13 : Nat) : Int) _ = some (ofL (if hgt op < least then _ else _))
  rw [f5]
  exact hj
 | bin m op a b h0 h1 ha hb iha ihb =>
  intro hm k least hk
  obtain ⟨k, rfl⟩ : ∃ j, k = j + 4 := ⟨k - 4, by omega⟩
  have hB := body_le (V.bin m op a b h0 h1 ha hb) hm
  obtain ⟨f1, f2, f3, f4, f5, f6⟩ := bin_facts h0 h1
  have hr := iha (by omega) (k + 3) (hgt op) (by omega)
  have hr2 := ihb (by omega) (k + 3) (hgt op + 1) (by omega)
  have e : bodyL m ⟨op, 0, noName, [a, b]⟩ = (((showL m a (hgt op) ++ [32]) ++ sg op) ++ [32]) ++ showL m b (hgt op + 1) := by rw [body_bin m op a b h0 h1]; simp
  rw [e] at hB
  have hrd : rd_T26 [a, b] 0 = a := rfl
  have hrd2 : rd_T26 [a, b] 1 = b := rfl
  have hj := show_j0 (k + 2) least (hgt op) _ (show ((((showL m a (hgt op) ++ [32]) ++ sg op) ++ [32]) ++ showL m b (hgt op + 1)).length ≤ 9000000000000000000 by omega)
  have hl := hB
  simp only [List.length_append, List.length_cons, List.length_nil] at hl
  have hw : wrap64 ((hgt op : Int) + 1) = ((hgt op + 1 : Nat) : Int) := by rw [wrap_in (by omega) (by omega)]; omega
  have s32 : (⟨#[32]⟩ : ByteArray) = ofL [32] := rfl
  have q1 : (ofL (showL m a (hgt op))).size + 1 ≤ 9223372036854775807 := by rw [ofL_size]; omega
  have q2 : (ofL (showL m a (hgt op) ++ [32])).size + (ofL (sg op)).size ≤ 9223372036854775807 := by rw [ofL_size, ofL_size, List.length_append]; simp only [List.length_cons, List.length_nil]; omega
  have q3 : (ofL ((showL m a (hgt op) ++ [32]) ++ sg op)).size + 1 ≤ 9223372036854775807 := by rw [ofL_size, List.length_append, List.length_append]; simp only [List.length_cons, List.length_nil]; omega
  have q4 : (ofL (((showL m a (hgt op) ++ [32]) ++ sg op) ++ [32])).size + (ofL (showL m b (hgt op + 1))).size ≤ 9223372036854775807 := by rw [ofL_size, ofL_size]; simp only [List.length_append, List.length_cons, List.length_nil]; omega
  have n1 : ¬ (hgt op : Int) = 1 := by omega
  have n2 : ¬ (hgt op : Int) = 2 := by omega
  have n3 : ¬ (hgt op : Int) = 13 := by omega
  have n4 : ¬ (hgt op : Int) = 14 := by omega
  show arith_show.f (k + 4) op 0 noName [a, b] (least : Int) = _
  rw [showL_eq, e, arith_show.f, height_eq k (by omega) (by omega), Option.bind_some, if_neg n1, if_neg n2, if_neg n3, if_neg n4, if_pos (by simp), hrd, hr, Option.bind_some, if_pos q1, sign_eq (by omega) (by omega), Option.bind_some, s32, ofL_app, if_pos q2, ofL_app, if_pos q3, if_pos (by simp), hrd2, hw, hr2, Option.bind_some, ofL_app, if_pos q4, ofL_app]
  exact hj
 | cond m a b c ha hb hc iha ihb ihc =>
  intro hm k least hk
  obtain ⟨k, rfl⟩ : ∃ j, k = j + 4 := ⟨k - 4, by omega⟩
  have hB := body_le (V.cond m a b c ha hb hc) hm
  have hr : arith_show.f (k + 3) a.f0 a.f1 a.f2 a.f3 3 = _ := iha (by omega) (k + 3) 3 (by omega)
  have hr2 : arith_show.f (k + 3) b.f0 b.f1 b.f2 b.f3 1 = _ := ihb (by omega) (k + 3) 1 (by omega)
  have hr3 : arith_show.f (k + 3) c.f0 c.f1 c.f2 c.f3 2 = _ := ihc (by omega) (k + 3) 2 (by omega)
  have e : bodyL m ⟨25, 0, noName, [a, b, c]⟩ = (((showL m a 3 ++ [32, 63, 32]) ++ showL m b 1) ++ [32, 58, 32]) ++ showL m c 2 := by rw [body_cond m a b c]; simp
  rw [e] at hB
  have hrd : rd_T26 [a, b, c] 0 = a := rfl
  have hrd2 : rd_T26 [a, b, c] 1 = b := rfl
  have hrd3 : rd_T26 [a, b, c] 2 = c := rfl
  have hj := show_j0 (k + 2) least 2 _ (show ((((showL m a 3 ++ [32, 63, 32]) ++ showL m b 1) ++ [32, 58, 32]) ++ showL m c 2).length ≤ 9000000000000000000 by omega)
  have hl := hB
  simp only [List.length_append, List.length_cons, List.length_nil] at hl
  have s1 : (⟨#[32, 63, 32]⟩ : ByteArray) = ofL [32, 63, 32] := rfl
  have s2 : (⟨#[32, 58, 32]⟩ : ByteArray) = ofL [32, 58, 32] := rfl
  have q1 : (ofL (showL m a 3)).size + 3 ≤ 9223372036854775807 := by rw [ofL_size]; omega
  have q2 : (ofL (showL m a 3 ++ [32, 63, 32])).size + (ofL (showL m b 1)).size ≤ 9223372036854775807 := by rw [ofL_size, ofL_size, List.length_append]; simp only [List.length_cons, List.length_nil]; omega
  have q3 : (ofL ((showL m a 3 ++ [32, 63, 32]) ++ showL m b 1)).size + 3 ≤ 9223372036854775807 := by rw [ofL_size, List.length_append, List.length_append]; simp only [List.length_cons, List.length_nil]; omega
  have q4 : (ofL (((showL m a 3 ++ [32, 63, 32]) ++ showL m b 1) ++ [32, 58, 32])).size + (ofL (showL m c 2)).size ≤ 9223372036854775807 := by rw [ofL_size, ofL_size]; simp only [List.length_append, List.length_cons, List.length_nil]; omega
  show arith_show.f (k + 4) 25 0 noName [a, b, c] (least : Int) = _
  rw [showL_eq, e, arith_show.f, height_eq k (by omega) (by omega), Option.bind_some, show (hgt 25 : Int) = 2 from rfl, if_neg (by omega), if_pos rfl, if_pos (by simp), hrd, hr, Option.bind_some, if_pos q1, if_pos (by simp), hrd2, hr2, Option.bind_some, s1, ofL_app, if_pos q2, ofL_app, if_pos q3, if_pos (by simp), hrd3, hr3, Option.bind_some, s2, ofL_app, if_pos q4, ofL_app]
  exact hj
 | set m n t a h0 h1 hv ih =>
  intro hm k least hk
  obtain ⟨k, rfl⟩ : ∃ j, k = j + 4 := ⟨k - 4, by omega⟩
  have hB := body_le (V.set m n t a h0 h1 hv) hm
  have hr : arith_show.f (k + 3) a.f0 a.f1 a.f2 a.f3 1 = _ := ih (by omega) (k + 3) 1 (by omega)
  let S : List UInt8 := if n = 0 then [] else sg n
  have e : bodyL m ⟨26, n, t, [a]⟩ = (((sl t ++ [32]) ++ S) ++ [61, 32]) ++ showL m a 1 := by rw [body_set m n t a]; simp [asg, S]
  rw [e] at hB
  have hrd : rd_T26 [a] 0 = a := rfl
  have hj := show_j0 (k + 2) least 1 _ (show ((((sl t ++ [32]) ++ S) ++ [61, 32]) ++ showL m a 1).length ≤ 9000000000000000000 by omega)
  have hl := hB
  simp only [List.length_append, List.length_cons, List.length_nil] at hl
  have s1 : (⟨#[32]⟩ : ByteArray) = ofL [32] := rfl
  have s2 : (⟨#[61, 32]⟩ : ByteArray) = ofL [61, 32] := rfl
  have s3 : t = ofL (sl t) := rfl
  have q1 : (ofL (sl t)).size + 1 ≤ 9223372036854775807 := by rw [ofL_size]; omega
  have q2 : (ofL (sl t ++ [32])).size + (ofL S).size ≤ 9223372036854775807 := by rw [ofL_size, ofL_size, List.length_append]; simp only [List.length_cons, List.length_nil]; omega
  have q3 : (ofL ((sl t ++ [32]) ++ S)).size + 2 ≤ 9223372036854775807 := by rw [ofL_size, List.length_append, List.length_append]; simp only [List.length_cons, List.length_nil]; omega
  have q4 : (ofL (((sl t ++ [32]) ++ S) ++ [61, 32])).size + (ofL (showL m a 1)).size ≤ 9223372036854775807 := by rw [ofL_size, ofL_size]; simp only [List.length_append, List.length_cons, List.length_nil]; omega
  show arith_show.f (k + 4) 26 n (ofL (sl t)) [a] (least : Int) = _
  rw [showL_eq, e, arith_show.f, height_eq k (by omega) (by omega), Option.bind_some, show (hgt 26 : Int) = 1 from rfl, if_pos rfl]
  by_cases hn : n = 0
  ·have eS : S = [] := by simp [S, hn]
   have s4 : (⟨#[]⟩ : ByteArray) = ofL S := by rw [eS]
   rw [if_pos hn, s1, s4, if_pos q1, ofL_app, if_pos (by have := q2; rw [eS] at this; exact this), ofL_app, if_pos q3, if_pos (by simp), hrd, hr, Option.bind_some, s2, ofL_app, if_pos q4, ofL_app]
   exact hj
  ·have eS : S = sg n := by simp [S, hn]
   have hs : arith_sign.f n = some (ofL S) := by
    rw [eS]
    unfold asgB at h0
    simp at h0
    exact sign_eq (by omega) (by omega)
   rw [if_neg hn, hs, Option.bind_some, if_pos q1, s1, ofL_app, if_pos q2, ofL_app, if_pos q3, if_pos (by simp), hrd, hr, Option.bind_some, s2, ofL_app, if_pos q4, ofL_app]
   exact hj
end Go.Proofs.YtglmdfddgmkmaaaDoor.Q
end
section
namespace Go.Proofs.YtglmdfddgmkmaaaDoor.Q
open Go.RowKit Go.Proofs.YtglmdfddgmkmaaaDoorW.PrintWords
set_option linter.unusedVariables false
set_option linter.unusedSimpArgs false
theorem firstE_zero {g : S26 → Int} : ∀ l : List S26, firstE g l = 0 → ∀ y ∈ l, g y = 0
 | [], _, y, hy => absurd hy (by simp)
 | a :: l, h, y, hy => by
  simp only [firstE] at h
  by_cases ha : g a = 0
  ·rw [if_pos ha] at h
   rcases List.mem_cons.mp hy with rfl | hy
   ·exact ha
   ·exact firstE_zero l h y hy
  ·rw [if_neg ha] at h
   exact absurd h ha
theorem no_name {nm : ByteArray} (h : nm.toList = []) : nm = noName := by
 rw [Go.ByteArray.toList_eq] at h
 apply ByteArray.ext
 rw [← Array.toArray_toList (xs := nm.data), h]
 rfl
theorem part_zero {op n : Int} {nm : ByteArray} {l : Nat} (h : partE op n nm l = 0) : kidsE op = (l : Int) ∧ rightE op n = true ∧ (namedE op = true → nameB nm = true) ∧ (namedE op = false → nm = noName) := by
 unfold partE at h
 split at h
 ·rename_i hc
  simp only [Bool.and_eq_true, decide_eq_true_eq, beq_iff_eq] at hc
  obtain ⟨⟨h1, h2⟩, h3⟩ := hc
  split at h
  ·simp at h
  ·rename_i hn
   refine ⟨h1, h2, fun h4 => ?_, fun h4 => ?_⟩
   ·rw [h4] at hn
    simpa using hn
   ·rw [h4] at h3
    have : nm.toList = [] := by
     have h5 := h3.symm
     simpa [bne] using h5
    exact no_name this
 ·omega
theorem valid_V : ∀ (m : Nat) (x : S26), Fine x → validE m x = 0 → V m x
 | 0, x, _, h => by simp [validE] at h
 | m + 1, x, hF, h => by
  cases hF with
  | mk _ h0 h1 h2 h3 h4 h5 h6 =>
  simp only [validE] at h
  split at h
  ·rename_i hp
   obtain ⟨p1, p2, p3, p4⟩ := part_zero hp
   have hk : ∀ y ∈ x.f3, V m y := fun y hy => valid_V m y (h6 y hy) (firstE_zero _ h y hy)
   cases x with
   | mk op n nm l =>
   simp only at *
   by_cases o1 : op = 1
   ·subst o1
    have hl : l = [] := List.eq_nil_of_length_eq_zero (by simp [kidsE] at p1; omega)
    have hn := p4 (by decide)
    have hz : 0 ≤ n := by simp [rightE] at p2; exact p2
    subst hl hn
    exact V.num m n hz h3
   ·by_cases o2 : op = 2
    ·subst o2
     have hl : l = [] := List.eq_nil_of_length_eq_zero (by simp [kidsE] at p1; omega)
     have hn := p3 (by decide)
     have hz : n = 0 := by simp [rightE] at p2; exact p2
     subst hl hz
     exact V.var m nm hn
    ·by_cases o26 : op = 26
     ·subst o26
      have hl : l.length = 1 := by simp [kidsE] at p1; omega
      have hn := p3 (by decide)
      have hz : asgE n = true := by simp [rightE] at p2; exact p2
      match l, hl with
      | [a], _ => exact V.set m n nm a hz hn (hk a (by simp))
     ·have hn : nm = noName := p4 (by simp [namedE, o2, o26])
      have hz : n = 0 := by simp [rightE, o1, o26] at p2; exact p2
      subst hn hz
      by_cases o6 : 3 ≤ op ∧ op ≤ 6
      ·have hl : l.length = 1 := by
        unfold kidsE at p1
        rw [if_neg (by omega), if_pos (by omega)] at p1
        omega
       match l, hl with
       | [a], _ => exact V.un m op a o6.1 o6.2 (hk a (by simp))
      ·by_cases o24 : 7 ≤ op ∧ op ≤ 24
       ·have hl : l.length = 2 := by
         unfold kidsE at p1
         rw [if_neg (by omega), if_neg (by omega), if_pos (by omega)] at p1
         omega
        match l, hl with
        | [a, b], _ => exact V.bin m op a b o24.1 o24.2 (hk a (by simp)) (hk b (by simp))
       ·by_cases o25 : op = 25
        ·subst o25
         have hl : l.length = 3 := by simp [kidsE] at p1; omega
         match l, hl with
         | [a, b, c], _ => exact V.cond m a b c (hk a (by simp)) (hk b (by simp)) (hk c (by simp))
        ·exfalso
         unfold kidsE at p1
         rw [if_neg (by omega), if_neg (by omega), if_neg (by omega), if_neg (by omega)] at p1
         omega
  ·rename_i hp
   exact absurd h hp
theorem V_W3 {m : Nat} {x : S26} (h : V m x) : W3 x := by
 induction h with
 | num m n _ _ => exact .mk _ (Nat.zero_le _) (fun y h => by cases h)
 | var m t _ => exact .mk _ (Nat.zero_le _) (fun y h => by cases h)
 | un m op a _ _ _ ih => exact .mk _ (by simp) (fun z hz => by simp at hz; exact hz ▸ ih)
 | bin m op a b _ _ _ _ h1 h2 => exact .mk _ (by simp) (fun z hz => by simp at hz; rcases hz with rfl | rfl; exact h1; exact h2)
 | cond m a b c _ _ _ h1 h2 h3 => exact .mk _ (by simp) (fun w hw => by simp at hw; rcases hw with rfl | rfl | rfl; exact h1; exact h2; exact h3)
 | set m n t a _ _ _ ih => exact .mk _ (by simp) (fun z hz => by simp at hz; exact hz ▸ ih)
theorem levels_node (m : Nat) (hm : m ≤ 1000) (x : S26) (hl : x.f3.length ≤ 3) (h : ∀ y ∈ x.f3, ∃ k n, arith_levels.f k y.f0 y.f1 y.f2 y.f3 = some n ∧ n ≤ (m : Int)) : ∃ k n, arith_levels.f k x.f0 x.f1 x.f2 x.f3 = some n ∧ n ≤ ((m + 1 : Nat) : Int) := by
 obtain ⟨K, hK⟩ := common (P := fun k y => ∃ n, arith_levels.f k y.f0 y.f1 y.f2 y.f3 = some n ∧ n ≤ (m : Int)) (fun k y ⟨n, h, h2⟩ => ⟨n, arith_levels.mono _ _ _ _ _ _ h, h2⟩) x.f3 h
 have loop : ∀ (d i : Nat) (a : Int), i + d = x.f3.length → 0 ≤ a → a ≤ (m : Int) → ∃ n, arith_levels.l0 (K + d + 1) a x.f3 (x.f3.length : Int) (i : Int) = some n ∧ n ≤ ((m + 1 : Nat) : Int) := by
  intro d
  induction d with
  | zero =>
   intro i a hi ha hb
   rw [arith_levels.l0, if_neg (by omega)]
   exact ⟨_, rfl, by rw [wrap_in (by omega) (by omega)]; omega⟩
  | succ d ihd =>
   intro i a hi ha hb
   obtain ⟨n, hn, hn2⟩ := hK (K + (d + 1)) (by omega) (rd_T26 x.f3 (i : Int)) (rd_mem (by omega))
   have hw : wrap64 ((i : Int) + 1) = ((i + 1 : Nat) : Int) := by rw [wrap_in (by omega) (by omega)]; omega
   rw [arith_levels.l0, if_pos (by omega), if_pos (by omega), if_pos (by omega), hn, Option.bind_some, hw, show K + (d + 1) = K + d + 1 by omega]
   exact ihd (i + 1) _ (by omega) (by unfold mx; split <;> omega) (by unfold mx; split <;> omega)
 obtain ⟨n, hn, hn2⟩ := loop x.f3.length 0 0 (by omega) (by omega) (by omega)
 rw [show ((0 : Nat) : Int) = 0 from rfl] at hn
 exact ⟨K + x.f3.length + 1 + 1, n, by rw [arith_levels.f]; exact hn, hn2⟩
theorem levels_V {m : Nat} {x : S26} (h : V m x) : m ≤ 1000 → ∃ k n, arith_levels.f k x.f0 x.f1 x.f2 x.f3 = some n ∧ n ≤ (m : Int) := by
 induction h with
 | num m n _ _ => exact fun hm => levels_node m (by omega) _ (Nat.zero_le _) (fun y h => by cases h)
 | var m t _ => exact fun hm => levels_node m (by omega) _ (Nat.zero_le _) (fun y h => by cases h)
 | un m op a _ _ _ ih => exact fun hm => levels_node m (by omega) _ (by simp) (fun z hz => by simp at hz; exact hz ▸ ih (by omega))
 | bin m op a b _ _ _ _ h1 h2 => exact fun hm => levels_node m (by omega) _ (by simp) (fun z hz => by simp at hz; rcases hz with rfl | rfl; exact h1 (by omega); exact h2 (by omega))
 | cond m a b c _ _ _ h1 h2 h3 => exact fun hm => levels_node m (by omega) _ (by simp) (fun w hw => by simp at hw; rcases hw with rfl | rfl | rfl; exact h1 (by omega); exact h2 (by omega); exact h3 (by omega))
 | set m n t a _ _ _ ih => exact fun hm => levels_node m (by omega) _ (by simp) (fun z hz => by simp at hz; exact hz ▸ ih (by omega))
theorem size_some {x : S26} (h : W3 x) : ∃ k n, arith_size.f k x.f0 x.f1 x.f2 x.f3 = some n := by
 induction h with
 | mk x hl _ ih =>
  obtain ⟨K, hK⟩ := common (P := fun k y => ∃ n, arith_size.f k y.f0 y.f1 y.f2 y.f3 = some n) (fun k y ⟨n, h⟩ => ⟨n, arith_size.mono _ _ _ _ _ _ h⟩) x.f3 ih
  have loop : ∀ (d i : Nat) (a : Int), i + d = x.f3.length → ∃ n, arith_size.l0 (K + d + 1) a x.f3 (x.f3.length : Int) (i : Int) = some n := by
   intro d
   induction d with
   | zero =>
    intro i a hi
    rw [arith_size.l0, if_neg (by omega)]
    exact ⟨_, rfl⟩
   | succ d ihd =>
    intro i a hi
    obtain ⟨n, hn⟩ := hK (K + (d + 1)) (by omega) (rd_T26 x.f3 (i : Int)) (rd_mem (by omega))
    have hw : wrap64 ((i : Int) + 1) = ((i + 1 : Nat) : Int) := by rw [wrap_in (by omega) (by omega)]; omega
    rw [arith_size.l0, if_pos (by omega), if_pos (by omega), if_pos (by omega)]
    by_cases hc : a > 4096
    ·rw [if_pos hc]
     exact ⟨_, rfl⟩
    ·rw [if_neg hc, hn, Option.bind_some, hw, show K + (d + 1) = K + d + 1 by omega]
     exact ihd (i + 1) _ (by omega)
  obtain ⟨n, hn⟩ := loop x.f3.length 0 1 (by omega)
  rw [show ((0 : Nat) : Int) = 0 from rfl] at hn
  exact ⟨K + x.f3.length + 1 + 1, n, by rw [arith_size.f]; exact hn⟩
theorem size_up {x : S26} {k n r} (h : k ≤ n) (hr : arith_size.f k x.f0 x.f1 x.f2 x.f3 = some r) : arith_size.f n x.f0 x.f1 x.f2 x.f3 = some r := by
 induction h with
 | refl => exact hr
 | step _ ih => exact arith_size.mono _ _ _ _ _ _ ih
theorem Valid_is (x : S26) (k : Nat) (hk : 400 ≤ k) : arith_Valid.f k x.f0 x.f1 x.f2 x.f3 = some (validE 32 x) := by
 unfold arith_Valid.f
 have h1 := arith_valid_eq 32 x k (by omega) (by omega)
 rw [show ((32 - 32 : Nat) : Int) = 0 from rfl] at h1
 rw [h1]
 rfl
/-- What Show tells: an error and nothing, or the whole text. -/
theorem Show_is (x : S26) (hF : Fine x) : (∃ e : Int, e ≠ 0 ∧ ∃ K, ∀ k, K ≤ k → arith_Show.f k x.f0 x.f1 x.f2 x.f3 = some (⟨#[]⟩, e)) ∨ (V 32 x ∧ (showL 32 x 1).length ≤ 4096 ∧ ∃ K, ∀ k, K ≤ k → arith_Show.f k x.f0 x.f1 x.f2 x.f3 = some (ofL (showL 32 x 1), 0)) := by
 by_cases hv : validE 32 x = 0
 ·have hV := valid_V 32 x hF hv
  obtain ⟨ks, n, hs⟩ := size_some (V_W3 hV)
  by_cases hn : n > 4096
  ·refine .inl ⟨3, by omega, ks + 400, fun k hk => ?_⟩
   unfold arith_Show.f
   rw [Valid_is x k (by omega), Option.bind_some, if_pos hv, size_up (show ks ≤ k by omega) hs, Option.bind_some, if_pos hn]
  ·have hsh := fun k (hk : 165 ≤ k) => show_is hV (Nat.le_refl _) k 1 (by omega)
   have hz : (ofL (showL 32 x 1)).size = (showL 32 x 1).length := rfl
   by_cases hl : (showL 32 x 1).length ≤ 4096
   ·refine .inr ⟨hV, hl, ks + 400, fun k hk => ?_⟩
    have h1 : arith_show.f k x.f0 x.f1 x.f2 x.f3 1 = _ := hsh k (by omega)
    unfold arith_Show.f
    rw [Valid_is x k (by omega), Option.bind_some, if_pos hv, size_up (show ks ≤ k by omega) hs, Option.bind_some, if_neg hn, h1, Option.bind_some, if_neg (by rw [hz]; omega)]
   ·refine .inl ⟨3, by omega, ks + 400, fun k hk => ?_⟩
    have h1 : arith_show.f k x.f0 x.f1 x.f2 x.f3 1 = _ := hsh k (by omega)
    unfold arith_Show.f
    rw [Valid_is x k (by omega), Option.bind_some, if_pos hv, size_up (show ks ≤ k by omega) hs, Option.bind_some, if_neg hn, h1, Option.bind_some, if_pos (by rw [hz]; omega)]
 ·refine .inl ⟨validE 32 x, hv, 400, fun k hk => ?_⟩
  unfold arith_Show.f
  rw [Valid_is x k (by omega), Option.bind_some, if_neg hv]
/-- Parse reads a shown tree back. -/
theorem Parse_back {x : S26} (hV : V 32 x) (hl : (showL 32 x 1).length ≤ 4096) : ∃ K, ∀ k, K ≤ k → parseP (ofL (showL 32 x 1)) k = some (x.f0, x.f1, x.f2, x.f3, 0, 0) := by
 have hz : (ofL (showL 32 x 1)).size ≤ 4096 := hl
 obtain ⟨b, l, hb, hg⟩ := show_head hV 1
 have hsl : sl (ofL (showL 32 x 1)) = showL 32 x 1 := rfl
 have hVb : Vb (sl (ofL (showL 32 x 1))) = showL 32 x 1 := by rw [hsl, hb]; exact Vb_good hg.1
 have hne : Vb (sl (ofL (showL 32 x 1))) ≠ [] := by rw [hVb, hb]; simp
 have h1 := (read_back (s := ofL (showL 32 x 1)) hz hV).2.2.2 [] (by rw [List.append_nil, hsl]; exact List.suffix_refl _) (.inl rfl) ⟨⟨⟨0, 0, by rw [show Vb [] = [] from rfl, tkNil]; exact bi0, by omega⟩, by rw [show Vb [] = [] from rfl, tkNil, Go.ByteArray.toList_eq]; simp⟩, 0, by rw [show Vb [] = [] from rfl, tkNil]; exact as0⟩
 rw [List.append_nil, show Vb [] = [] from rfl] at h1
 obtain ⟨K, hK⟩ := parse_pr hz hne (by rw [hVb]; exact h1)
 obtain ⟨kl, n, hn, hn2⟩ := levels_V hV (by omega)
 refine ⟨K + kl, fun k hk => ?_⟩
 rw [hK k (by omega), okL]
 exact told_right _ _ _ _ (by rw [tkNil, Go.ByteArray.toList_eq]) (levels_up (show kl ≤ k by omega) hn) (by omega)
end Go.Proofs.YtglmdfddgmkmaaaDoor.Q
end
section
namespace Go.Proofs.YtglmdfddgmkmaaaDoor.Q
open Go.RowKit Go.Proofs.YtglmdfddgmkmaaaDoorW.PrintWords
set_option linter.unusedVariables false
set_option linter.unusedSimpArgs false
theorem back_true (x : S26) (hF : Fine x) : ∃ k, jobshelllaw05_ArithBack.f k x.f0 x.f1 x.f2 x.f3 = some true := by
 have nil0 : (⟨#[]⟩ : ByteArray).toList = [] := by rw [Go.ByteArray.toList_eq]
 rcases Show_is x hF with ⟨e, he, K, hK⟩ | ⟨hV, hl, K, hK⟩
 ·refine ⟨K + 3300, ?_⟩
  obtain ⟨b, hb⟩ := Small_eq x (K + 3300) (by omega)
  unfold jobshelllaw05_ArithBack.f
  rw [hb, Option.bind_some]
  cases b
  ·rw [if_neg (by simp), awake_at _ (by omega), Option.bind_some]
  ·rw [if_pos rfl, hK _ (by omega), Option.bind_some, if_neg he, if_pos nil0, awake_at _ (by omega), Option.bind_some]
 ·obtain ⟨K2, hK2⟩ := Parse_back hV hl
  obtain ⟨K3, hK3⟩ := same_self (V_W3 hV)
  refine ⟨K + K2 + K3 + 3300, ?_⟩
  obtain ⟨b, hb⟩ := Small_eq x (K + K2 + K3 + 3300) (by omega)
  unfold jobshelllaw05_ArithBack.f
  rw [hb, Option.bind_some]
  cases b
  ·rw [if_neg (by simp), awake_at _ (by omega), Option.bind_some]
  ·rw [if_pos rfl, hK _ (by omega), Option.bind_some, if_pos rfl, arith_Parse.f, hK2 _ (by omega), Option.bind_some, if_pos rfl, if_pos rfl, hK3 _ (by omega), Option.bind_some, if_pos rfl, awake_at _ (by omega), Option.bind_some]
end Go.Proofs.YtglmdfddgmkmaaaDoor.Q
end
section
namespace Go.Proofs.YtglmdfddgmkmaaaDoor.Q
open Go.ChangeShapes Go.WideShapes Go.ChangeAt Go.RowKit
open Go.ChangeMaps (open_string shut_string)
set_option maxRecDepth 100000
set_option linter.unusedVariables false
theorem laidOut : laidOutB Tryd.prog = true := by kernel_rfl
theorem back_lifted (os : Os) (started : os.Started) (H : Type) (enc : TypeId × Value → H) :
 ReturnsInHanded {} Tryd.checked os 7 .any (fun w args => (Rows.arithBackSpec.pre enc Tryd.prog Tryd.f7 [] false w args ∧ laidMetH Tryd.prog laid3 w) ∧ sizedMet enc Tryd.prog Tryd.f7 (OpenSpec.ofChange Rows.arithBackSpec) false w args)
  (Rows.arithBackSpec.post enc Tryd.prog Tryd.f7 false true false false) := by
 refine returnsInHanded_of_change_and (C := Tryd.checked) (X := fun w _ => laidMetH Tryd.prog laid3 w) (fun _ _ _ hh h => h.of_heap hh) own started (by kernel_rfl) Tryd.func7
  (ChangeSpec.witness_shaped (enc := enc) (C := Tryd.checked) (os := os) (X := fun w _ => laidMetH Tryd.prog laid3 w) false (World.doorLaid Tryd.prog 400 os) #[.agg #[.int .i64 0, .int .i64 0, .string ⟨#[]⟩, .slice none 0 0]] 8 rfl (World.shaped_of_RefB (by kernel_rfl) (by kernel_rfl)) (by kernel_rfl) (by kernel_rfl) (by kernel_rfl) (door_met os _)) ?_
 intro W base args ds gs before hval0 hW _ _ hL _
 have hval : ∀ (j : Nat) t v, Tryd.f7.params[j]? = some t → args[j]? = some v → Value.okWide Tryd.prog W .any base t v := hval0
 have hW' := hW
 obtain ⟨p, q, hA0, hV, rfl, hfz, hnd⟩ := hW
 have hA : DataW.TrodAll enc Tryd.prog W 0 (fun _ => true) true Tryd.f7.params.toList args.toList ds p := hA0
 rw [Tryd.params7] at hA hval
 obtain ⟨v0, vs0, d0, ds0, p0, q0, hargs, rfl, rfl, h0, r0⟩ := trodAll_cons hA
 obtain ⟨rfl, rfl, rfl⟩ := trodAll_nil r0
 obtain rfl : args = #[v0] := by cases args; simp_all
 obtain ⟨rfl, rfl⟩ := trodVars_none hV
 have k0 := h0
 have lt0 : ∀ x ∈ p0, x.block < W.heap.size := by obtain ⟨m, hm⟩ := k0; exact DataW.trod_lt m _ _ _ hm
 obtain ⟨x0, A0, c0, rfl, hc0, hC0, hF0⟩ := tree_open (hval 0 26 v0 rfl rfl) h0
 obtain ⟨k, hk⟩ := back_true x0 hF0
 refine (jobshelllaw05_ArithBack.calls k x0.f0 x0.f1 x0.f2 A0 c0 x0.f3 true W hC0 hc0 hk (of_laid hL)).mono fun e W' ⟨he, bel⟩ => ?_
 subst he
 exact ⟨_, rfl, _, _, _, [], _, [], hW', trodAll_mk1 (shut_bool Tryd.underlying4 _), (trodAll_cons_mk (Below.trod laidOut (by kernel_rfl) (of_decide_eq_true (by kernel_rfl)) k0 bel lt0) trodAll_mk0), rfl, bel.frame _, fun h => by cases h⟩
theorem arithBack_holds : Rows.ArithBackSaid :=
 OpenClaim.holds_of_wide 7 Tryd.f7 rfl rfl rfl rfl rfl rfl rfl ⟨rfl, rfl, rfl, rfl, rfl⟩ rfl rfl rfl rfl rfl (by kernel_rfl) Tryd.func7 (by kernel_rfl)
  (of_decide_eq_true (by kernel_rfl)) (by unfold Func.isWrapper; first | (rw [if_pos (by decide +kernel)]; kernel_rfl) | (rw [if_neg (by decide +kernel)]; exact ⟨rfl, rfl⟩))
  (fun os started H enc _ => back_lifted os started H enc)
end Go.Proofs.YtglmdfddgmkmaaaDoor.Q
namespace Go.Proofs.YtglmdfddgmkmaaaDoor
open Q
set_option maxRecDepth 100000
theorem arithBack_card : Rows.ArithBackCardSaid :=
 Claim7.holds_tied_plain_at .later [] [.data, .data, .data] true (true, "74cc2cd4b784e984c7617e824861adf5041c4fd5a2cf63fd298402107294065b") true
  arithBack_holds (fun _ h => by cases h) (by kernel_rfl) (fun _ h => by cases h) arithBack_row_tie rfl ⟨rfl, rfl⟩ (by kernel_rfl) rfl
  (fun f fn hf hfn => by
   obtain rfl : f = 7 := Option.some.inj ((show Tryd.prog.funcNamed "jobshell/jobshelllaw05.ArithBack" = some 7 by kernel_rfl).symm.trans hf) |>.symm
   obtain rfl : fn = Tryd.f7 := (Option.some.inj (Tryd.func7.symm.trans hfn)).symm
   exact ⟨by kernel_rfl, fun j t ht => by
    rw [Tryd.params7] at ht
    have hm : t ∈ [26] := by simpa using Array.mem_of_getElem? ht
    have hall : ([26].all fun u => !Tryd.prog.wantsStandIn u) = true := by kernel_rfl
    exact (show Tryd.prog.wantsStandIn t = false by simpa using List.all_eq_true.1 hall t hm)⟩)
  (by kernel_rfl)
end Go.Proofs.YtglmdfddgmkmaaaDoor
end
