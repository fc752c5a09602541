/- Parentheses around an expression do not change its tree, and the offset of an error increases by one, unless the error is at a closing parenthesis or at the end (P5.1): ArithParens answers true for every string; no condition beyond those of the statement itself (the tables that its row lays). Last part: the law, its plain law, its row and its card. -/
import Derived.ChangeOld
import Derived.SizedLaws
import Derived.SevenTiedAt
import Derived.ShutString
import Derived.Test.YtglmdfddgmkmaaaDoorCards
import Derived.Test.YtglmdfddgmkmaaaDoorTie
import Derived.Test.YtglmdfddgmkmaaaDoorVvb3
section
namespace Go.Proofs.YtglmdfddgmkmaaaDoor.Q
open Go.RowKit Go.Proofs.YtglmdfddgmkmaaaDoorW.PrintWords Go.Proofs.YtglmdfddgmkmaaaDoorW.PrintLast Go.Proofs.YtglmdfddgmkmaaaDoorW.PrintMore
attribute [local go_sem] max2_int min2_int max_two min_two max_three min_three max_four min_four
set_option linter.unusedVariables false
set_option linter.unusedSimpArgs false
set_option maxHeartbeats 8000000 in
set_option maxRecDepth 100000 in
theorem jobshellref05_Same.calls (k : Nat) : ∀ (a0_0 : Int) (a0_1 : Int) (a0_2 : ByteArray) (A0_3 : Option Addr) (c0_3 : Nat) (l0_3 : List (S26)) (a1_0 : Int) (a1_1 : Int) (a1_2 : ByteArray) (A1_3 : Option Addr) (c1_3 : Nat) (l1_3 : List (S26)) (r : Bool) (w : World) (hr0_3 : Kd.C k26 w A0_3 l0_3.length l0_3) (hc0_3 : l0_3.length ≤ c0_3) (hr1_3 : Kd.C k26 w A1_3 l1_3.length l1_3) (hc1_3 : l1_3.length ≤ c1_3) (h : jobshellref05_Same.f k a0_0 a0_1 a0_2 l0_3 a1_0 a1_1 a1_2 l1_3 = some r),
 Calls Tryd.prog 20 #[.agg #[.int .i64 a0_0, .int .i64 a0_1, .string a0_2, .slice A0_3 l0_3.length c0_3], .agg #[.int .i64 a1_0, .int .i64 a1_1, .string a1_2, .slice A1_3 l1_3.length c1_3]] w fun e w' => e = .returned (.bool r) ∧ Below w.heap.size w w' := by
 induction k using Nat.strongRecOn with
 | _ k ih =>
 intro a0_0 a0_1 a0_2 A0_3 c0_3 l0_3 a1_0 a1_1 a1_2 A1_3 c1_3 l1_3 r w hr0_3 hc0_3 hr1_3 hc1_3 h
 cases k with
 | zero => exact absurd h (by simp [jobshellref05_Same.f])
 | succ k =>
 simp only [jobshellref05_Same.f] at h
 have hu26 := Tryd.underlying26
 have HR0_3 := Aside0.mk hr0_3
 have HC0_3 := Aside0.mk hc0_3
 clear hr0_3 hc0_3
 have HR1_3 := Aside0.mk hr1_3
 have HC1_3 := Aside0.mk hc1_3
 clear hr1_3 hc1_3
 have HB := Aside0.mk (Below.refl w.heap.size w)
 have H : (if a0_0 = a1_0 then (if a0_1 = a1_1 then (if a0_2.toList = a1_2.toList then (jobshellref05_Same.j0 k ((l0_3.length : Int) != (l1_3.length : Int)) a0_0 a0_1 a0_2 l0_3 a1_0 a1_1 a1_2 l1_3) else (jobshellref05_Same.j0 k true a0_0 a0_1 a0_2 l0_3 a1_0 a1_1 a1_2 l1_3)) else (jobshellref05_Same.j0 k true a0_0 a0_1 a0_2 l0_3 a1_0 a1_1 a1_2 l1_3)) else (jobshellref05_Same.j0 k true a0_0 a0_1 a0_2 l0_3 a1_0 a1_1 a1_2 l1_3)) = some r := h
 clear h
 have HC3 := Aside0.mk H
 clear H
 go_enter Tryd.func20, Tryd.ntmps20
 go_upto_region 1 with (first | ((with_reducible refine gate_dst (N := 2) rfl ?_); (try (refine gate_guard (by rfl) ?_; dsimp only)); refine box_event ?hg (N := 2) ?hd (cs := #[.int .i64 a0_0, .int .i64 a0_1, .string a0_2, .slice A0_3 l0_3.length c0_3]) (t := 26) ?hr ?_; (case hd => rfl); (case hg => rfl); (case hr => first | (go_simp; done) | (go_simp; rfl)); intro gb253 hg w4 hbox hb; have n0_ := Aside0.mk (below_step (by repeat (first | (with_reducible first | exact HB.out | apply below_alloc | apply pw_below_drewN | apply below_drew1) | exact HB.out)) hb); have n1_ := Aside0.mk (hbox); have n2_ := Aside0.mk ((by rw [hg]; exact (below_size (by repeat (first | (with_reducible first | exact HB.out | apply below_alloc | apply pw_below_drewN | apply below_drew1) | exact HB.out))) : w.heap.size ≤ gb253)); have n3_ := Aside0.mk ((by rw [hg]; exact (below_size (by repeat (first | (with_reducible first | exact HB.out | apply below_alloc | apply pw_below_drewN | apply below_drew1) | exact HB.out))) : w.heap.size ≤ gb253)); clear HB; have HB := n0_; have BK253 := n1_; have GW253 := n2_; have GE253 := n3_; clear n0_ n1_ n2_ n3_; clear hb hbox hg) | ((with_reducible refine gate_dst (N := 3) rfl ?_); (try (refine gate_guard (by rfl) ?_; dsimp only)); refine box_event ?hg (N := 3) ?hd (cs := #[.int .i64 a1_0, .int .i64 a1_1, .string a1_2, .slice A1_3 l1_3.length c1_3]) (t := 26) ?hr ?_; (case hd => rfl); (case hg => rfl); (case hr => first | (go_simp; done) | (go_simp; rfl)); intro gb254 hg w5 hbox hb; have n0_ := Aside0.mk (blk_below (g := gb253) (o := .cells #[.int .i64 a0_0, .int .i64 a0_1, .string a0_2, .slice A0_3 l0_3.length c0_3] 26 (0, 0)) (by (with_reducible repeat (first | refine blk_drewN ?_ _ | refine blk_drew ?_ | refine blk_alloc ?_ _)); exact BK253.out) hb); have n1_ := Aside0.mk (below_step (by repeat (first | (with_reducible first | exact HB.out | apply below_alloc | apply pw_below_drewN | apply below_drew1 | refine below_set ?_ GE253.out) | exact HB.out)) hb); have n2_ := Aside0.mk (hbox); have n3_ := Aside0.mk ((by rw [hg]; exact (below_size (by repeat (first | (with_reducible first | exact HB.out | apply below_alloc | apply pw_below_drewN | apply below_drew1 | refine below_set ?_ GE253.out) | exact HB.out))) : w.heap.size ≤ gb254)); have n4_ := Aside0.mk ((by rw [hg]; exact (below_size (by repeat (first | (with_reducible first | exact HB.out | apply below_alloc | apply pw_below_drewN | apply below_drew1 | refine below_set ?_ GE253.out) | exact HB.out))) : w.heap.size ≤ gb254)); have n5_ := Aside0.mk ((by rw [hg]; exact Nat.ne_of_lt (blk_lt (g := gb253) (o := .cells #[.int .i64 a0_0, .int .i64 a0_1, .string a0_2, .slice A0_3 l0_3.length c0_3] 26 (0, 0)) (by (with_reducible repeat (first | refine blk_drewN ?_ _ | refine blk_drew ?_ | refine blk_alloc ?_ _)); exact BK253.out)) : gb253 ≠ gb254)); have n6_ := Aside0.mk ((by rw [hg]; exact Nat.ne_of_gt (blk_lt (g := gb253) (o := .cells #[.int .i64 a0_0, .int .i64 a0_1, .string a0_2, .slice A0_3 l0_3.length c0_3] 26 (0, 0)) (by (with_reducible repeat (first | refine blk_drewN ?_ _ | refine blk_drew ?_ | refine blk_alloc ?_ _)); exact BK253.out)) : gb254 ≠ gb253)); clear BK253; clear HB; have BK253 := n0_; have HB := n1_; have BK254 := n2_; have GW254 := n3_; have GE254 := n4_; have NB253_254 := n5_; have NB254_253 := n6_; clear n0_ n1_ n2_ n3_ n4_ n5_ n6_; clear hb hbox hg))
 (try simp only [Act.put, List.setIfInBounds_toArray, List.set_cons_zero, List.set_cons_succ])
 go_cut [33] (fun v33 wc => ∃ (kq : Nat) (x33_2 : Bool), v33 = .bool x33_2 ∧ Aside0 (jobshellref05_Same.j0 kq x33_2 a0_0 a0_1 a0_2 l0_3 a1_0 a1_1 a1_2 l1_3 = some r) ∧ Aside0 (kq ≤ k) ∧ Aside0 (wc.heap[gb253]? = some (.cells #[.int .i64 a0_0, .int .i64 a0_1, .string a0_2, (.slice A0_3 l0_3.length c0_3)] 26 (0, 0))) ∧ Aside0 (wc.heap[gb254]? = some (.cells #[.int .i64 a1_0, .int .i64 a1_1, .string a1_2, (.slice A1_3 l1_3.length c1_3)] 26 (0, 0))) ∧ Aside0 (Below w.heap.size w wc))
 case first =>
  have H := HC3.out
  clear HC3
  by_cases c6 : a0_0 = a1_0
  ·rw [if_pos c6] at H
   have c6b0 : (a0_0 == a1_0) = true := beq_iff_eq.mpr c6
   have c6b1 : (a0_0 != a1_0) = false := bne_eq_false_iff_eq.mpr c6
   clear c6
   (first | rw [c6b0] | (simp only [i64_w, i32_w]; rw [c6b0]) | skip)
   by_cases c7 : a0_1 = a1_1
   ·rw [if_pos c7] at H
    have c7b0 : (a0_1 == a1_1) = true := beq_iff_eq.mpr c7
    have c7b1 : (a0_1 != a1_1) = false := bne_eq_false_iff_eq.mpr c7
    clear c7
    by_cases c8 : a0_2.toList = a1_2.toList
    ·rw [if_pos c8] at H
     have c8b0 : (a0_2.toList == a1_2.toList) = true := beq_iff_eq.mpr c8
     have c8b1 : (a0_2.toList != a1_2.toList) = false := bne_eq_false_iff_eq.mpr c8
     clear c8
     have H' := Aside0.mk H
     clear H
     have hnb9 := NB253_254.out
     have hnc9 := NB254_253.out
     have hcz10_0 : w5.cell? ⟨gb253, 0, none⟩ = some (.int .i64 a0_0) := (blk_cell BK253.out 0).trans rfl
     have hcz10_1 : w5.cell? ⟨gb253, 1, none⟩ = some (.int .i64 a0_1) := (blk_cell BK253.out 1).trans rfl
     have hcz10_2 : w5.cell? ⟨gb253, 2, none⟩ = some (.string a0_2) := (blk_cell BK253.out 2).trans rfl
     have hcz10_3 : w5.cell? ⟨gb253, 3, none⟩ = some (.slice A0_3 l0_3.length c0_3) := (blk_cell BK253.out 3).trans rfl
     have hfz10_0 := blk_frozen BK253.out 0
     have hfz10_1 := blk_frozen BK253.out 1
     have hfz10_2 := blk_frozen BK253.out 2
     have hfz10_3 := blk_frozen BK253.out 3
     have hcz11_0 : w5.cell? ⟨gb254, 0, none⟩ = some (.int .i64 a1_0) := (blk_cell BK254.out 0).trans rfl
     have hcz11_1 : w5.cell? ⟨gb254, 1, none⟩ = some (.int .i64 a1_1) := (blk_cell BK254.out 1).trans rfl
     have hcz11_2 : w5.cell? ⟨gb254, 2, none⟩ = some (.string a1_2) := (blk_cell BK254.out 2).trans rfl
     have hcz11_3 : w5.cell? ⟨gb254, 3, none⟩ = some (.slice A1_3 l1_3.length c1_3) := (blk_cell BK254.out 3).trans rfl
     have hfz11_0 := blk_frozen BK254.out 0
     have hfz11_1 := blk_frozen BK254.out 1
     have hfz11_2 := blk_frozen BK254.out 2
     have hfz11_3 := blk_frozen BK254.out 3
     go_wp2
     go_meet
     case rel => exact ⟨_, (((l0_3.length : Int) != (l1_3.length : Int))), (by first | rfl | (simp; done) | (simp [*]; done)), H', ⟨by first | omega | exact Nat.le_refl _⟩, ⟨by (with_reducible repeat (first | refine blk_drewN ?_ _ | refine blk_drew ?_ | refine blk_alloc ?_ _)); exact BK253.out⟩, ⟨by (with_reducible repeat (first | refine blk_drewN ?_ _ | refine blk_drew ?_ | refine blk_alloc ?_ _)); exact BK254.out⟩, ⟨by repeat (first | (with_reducible first | exact HB.out | apply below_alloc | apply pw_below_drewN | apply below_drew1 | refine below_set ?_ GE253.out | refine below_set ?_ GE254.out) | exact HB.out)⟩⟩
    ·rw [if_neg c8] at H
     have c8b0 : (a0_2.toList == a1_2.toList) = false := beq_eq_false_iff_ne.mpr c8
     have c8b1 : (a0_2.toList != a1_2.toList) = true := bne_iff_ne.mpr c8
     have H' := Aside0.mk H
     clear H
     have hnb12 := NB253_254.out
     have hnc12 := NB254_253.out
     have hcz13_0 : w5.cell? ⟨gb253, 0, none⟩ = some (.int .i64 a0_0) := (blk_cell BK253.out 0).trans rfl
     have hcz13_1 : w5.cell? ⟨gb253, 1, none⟩ = some (.int .i64 a0_1) := (blk_cell BK253.out 1).trans rfl
     have hcz13_2 : w5.cell? ⟨gb253, 2, none⟩ = some (.string a0_2) := (blk_cell BK253.out 2).trans rfl
     have hcz13_3 : w5.cell? ⟨gb253, 3, none⟩ = some (.slice A0_3 l0_3.length c0_3) := (blk_cell BK253.out 3).trans rfl
     have hfz13_0 := blk_frozen BK253.out 0
     have hfz13_1 := blk_frozen BK253.out 1
     have hfz13_2 := blk_frozen BK253.out 2
     have hfz13_3 := blk_frozen BK253.out 3
     have hcz14_0 : w5.cell? ⟨gb254, 0, none⟩ = some (.int .i64 a1_0) := (blk_cell BK254.out 0).trans rfl
     have hcz14_1 : w5.cell? ⟨gb254, 1, none⟩ = some (.int .i64 a1_1) := (blk_cell BK254.out 1).trans rfl
     have hcz14_2 : w5.cell? ⟨gb254, 2, none⟩ = some (.string a1_2) := (blk_cell BK254.out 2).trans rfl
     have hcz14_3 : w5.cell? ⟨gb254, 3, none⟩ = some (.slice A1_3 l1_3.length c1_3) := (blk_cell BK254.out 3).trans rfl
     have hfz14_0 := blk_frozen BK254.out 0
     have hfz14_1 := blk_frozen BK254.out 1
     have hfz14_2 := blk_frozen BK254.out 2
     have hfz14_3 := blk_frozen BK254.out 3
     go_wp2
     go_meet
     case rel => exact ⟨_, (true), (by first | rfl | (simp; done) | (simp [*]; done)), H', ⟨by first | omega | exact Nat.le_refl _⟩, ⟨by (with_reducible repeat (first | refine blk_drewN ?_ _ | refine blk_drew ?_ | refine blk_alloc ?_ _)); exact BK253.out⟩, ⟨by (with_reducible repeat (first | refine blk_drewN ?_ _ | refine blk_drew ?_ | refine blk_alloc ?_ _)); exact BK254.out⟩, ⟨by repeat (first | (with_reducible first | exact HB.out | apply below_alloc | apply pw_below_drewN | apply below_drew1 | refine below_set ?_ GE253.out | refine below_set ?_ GE254.out) | exact HB.out)⟩⟩
   ·rw [if_neg c7] at H
    have c7b0 : (a0_1 == a1_1) = false := beq_eq_false_iff_ne.mpr c7
    have c7b1 : (a0_1 != a1_1) = true := bne_iff_ne.mpr c7
    have H' := Aside0.mk H
    clear H
    have hnb15 := NB253_254.out
    have hnc15 := NB254_253.out
    have hcz16_0 : w5.cell? ⟨gb253, 0, none⟩ = some (.int .i64 a0_0) := (blk_cell BK253.out 0).trans rfl
    have hcz16_1 : w5.cell? ⟨gb253, 1, none⟩ = some (.int .i64 a0_1) := (blk_cell BK253.out 1).trans rfl
    have hcz16_2 : w5.cell? ⟨gb253, 2, none⟩ = some (.string a0_2) := (blk_cell BK253.out 2).trans rfl
    have hcz16_3 : w5.cell? ⟨gb253, 3, none⟩ = some (.slice A0_3 l0_3.length c0_3) := (blk_cell BK253.out 3).trans rfl
    have hfz16_0 := blk_frozen BK253.out 0
    have hfz16_1 := blk_frozen BK253.out 1
    have hfz16_2 := blk_frozen BK253.out 2
    have hfz16_3 := blk_frozen BK253.out 3
    have hcz17_0 : w5.cell? ⟨gb254, 0, none⟩ = some (.int .i64 a1_0) := (blk_cell BK254.out 0).trans rfl
    have hcz17_1 : w5.cell? ⟨gb254, 1, none⟩ = some (.int .i64 a1_1) := (blk_cell BK254.out 1).trans rfl
    have hcz17_2 : w5.cell? ⟨gb254, 2, none⟩ = some (.string a1_2) := (blk_cell BK254.out 2).trans rfl
    have hcz17_3 : w5.cell? ⟨gb254, 3, none⟩ = some (.slice A1_3 l1_3.length c1_3) := (blk_cell BK254.out 3).trans rfl
    have hfz17_0 := blk_frozen BK254.out 0
    have hfz17_1 := blk_frozen BK254.out 1
    have hfz17_2 := blk_frozen BK254.out 2
    have hfz17_3 := blk_frozen BK254.out 3
    go_wp2
    go_meet
    case rel => exact ⟨_, (true), (by first | rfl | (simp; done) | (simp [*]; done)), H', ⟨by first | omega | exact Nat.le_refl _⟩, ⟨by (with_reducible repeat (first | refine blk_drewN ?_ _ | refine blk_drew ?_ | refine blk_alloc ?_ _)); exact BK253.out⟩, ⟨by (with_reducible repeat (first | refine blk_drewN ?_ _ | refine blk_drew ?_ | refine blk_alloc ?_ _)); exact BK254.out⟩, ⟨by repeat (first | (with_reducible first | exact HB.out | apply below_alloc | apply pw_below_drewN | apply below_drew1 | refine below_set ?_ GE253.out | refine below_set ?_ GE254.out) | exact HB.out)⟩⟩
  ·rw [if_neg c6] at H
   have c6b0 : (a0_0 == a1_0) = false := beq_eq_false_iff_ne.mpr c6
   have c6b1 : (a0_0 != a1_0) = true := bne_iff_ne.mpr c6
   (first | rw [c6b0] | (simp only [i64_w, i32_w]; rw [c6b0]) | skip)
   have H' := Aside0.mk H
   clear H
   have hnb18 := NB253_254.out
   have hnc18 := NB254_253.out
   have hcz19_0 : w5.cell? ⟨gb253, 0, none⟩ = some (.int .i64 a0_0) := (blk_cell BK253.out 0).trans rfl
   have hcz19_1 : w5.cell? ⟨gb253, 1, none⟩ = some (.int .i64 a0_1) := (blk_cell BK253.out 1).trans rfl
   have hcz19_2 : w5.cell? ⟨gb253, 2, none⟩ = some (.string a0_2) := (blk_cell BK253.out 2).trans rfl
   have hcz19_3 : w5.cell? ⟨gb253, 3, none⟩ = some (.slice A0_3 l0_3.length c0_3) := (blk_cell BK253.out 3).trans rfl
   have hfz19_0 := blk_frozen BK253.out 0
   have hfz19_1 := blk_frozen BK253.out 1
   have hfz19_2 := blk_frozen BK253.out 2
   have hfz19_3 := blk_frozen BK253.out 3
   have hcz20_0 : w5.cell? ⟨gb254, 0, none⟩ = some (.int .i64 a1_0) := (blk_cell BK254.out 0).trans rfl
   have hcz20_1 : w5.cell? ⟨gb254, 1, none⟩ = some (.int .i64 a1_1) := (blk_cell BK254.out 1).trans rfl
   have hcz20_2 : w5.cell? ⟨gb254, 2, none⟩ = some (.string a1_2) := (blk_cell BK254.out 2).trans rfl
   have hcz20_3 : w5.cell? ⟨gb254, 3, none⟩ = some (.slice A1_3 l1_3.length c1_3) := (blk_cell BK254.out 3).trans rfl
   have hfz20_0 := blk_frozen BK254.out 0
   have hfz20_1 := blk_frozen BK254.out 1
   have hfz20_2 := blk_frozen BK254.out 2
   have hfz20_3 := blk_frozen BK254.out 3
   go_wp2
   go_meet
   case rel => exact ⟨_, (true), (by first | rfl | (simp; done) | (simp [*]; done)), H', ⟨by first | omega | exact Nat.le_refl _⟩, ⟨by (with_reducible repeat (first | refine blk_drewN ?_ _ | refine blk_drew ?_ | refine blk_alloc ?_ _)); exact BK253.out⟩, ⟨by (with_reducible repeat (first | refine blk_drewN ?_ _ | refine blk_drew ?_ | refine blk_alloc ?_ _)); exact BK254.out⟩, ⟨by repeat (first | (with_reducible first | exact HB.out | apply below_alloc | apply pw_below_drewN | apply below_drew1 | refine below_set ?_ GE253.out | refine below_set ?_ GE254.out) | exact HB.out)⟩⟩
 case rest =>
  clear HC3
  try clear c1
  try clear c2
  try clear p2
  try clear c6
  try clear c6b0
  try clear c6b1
  try clear c7
  try clear c7b0
  try clear c7b1
  try clear c8
  try clear c8b0
  try clear c8b1
  try clear c9
  try clear c12
  try clear c15
  try clear c18
  try clear c20
  try clear hcz10_0
  try clear hcz10_1
  try clear hcz10_2
  try clear hcz10_3
  try clear hcz11_0
  try clear hcz11_1
  try clear hcz11_2
  try clear hcz11_3
  try clear hcz13_0
  try clear hcz13_1
  try clear hcz13_2
  try clear hcz13_3
  try clear hcz14_0
  try clear hcz14_1
  try clear hcz14_2
  try clear hcz14_3
  try clear hcz16_0
  try clear hcz16_1
  try clear hcz16_2
  try clear hcz16_3
  try clear hcz17_0
  try clear hcz17_1
  try clear hcz17_2
  try clear hcz17_3
  try clear hcz19_0
  try clear hcz19_1
  try clear hcz19_2
  try clear hcz19_3
  try clear hcz20_0
  try clear hcz20_1
  try clear hcz20_2
  try clear hcz20_3
  try clear hfz10_0
  try clear hfz10_1
  try clear hfz10_2
  try clear hfz10_3
  try clear hfz11_0
  try clear hfz11_1
  try clear hfz11_2
  try clear hfz11_3
  try clear hfz13_0
  try clear hfz13_1
  try clear hfz13_2
  try clear hfz13_3
  try clear hfz14_0
  try clear hfz14_1
  try clear hfz14_2
  try clear hfz14_3
  try clear hfz16_0
  try clear hfz16_1
  try clear hfz16_2
  try clear hfz16_3
  try clear hfz17_0
  try clear hfz17_1
  try clear hfz17_2
  try clear hfz17_3
  try clear hfz19_0
  try clear hfz19_1
  try clear hfz19_2
  try clear hfz19_3
  try clear hfz20_0
  try clear hfz20_1
  try clear hfz20_2
  try clear hfz20_3
  obtain ⟨kq, x33_2, rfl, HA, HJ2, BK253, BK254, HB⟩ := hcut
  cases kq with
  | zero => exact absurd HA.out (by simp [jobshellref05_Same.j0])
  | succ kj2 =>
   have H := HA.out
   clear HA
   simp only [jobshellref05_Same.j0] at H
   by_cases c21 : x33_2 = true
   ·subst c21
    have H1 : (some false) = some r := by rw [if_pos rfl] at H; exact H
    clear H
    have H := H1
    clear H1
    obtain rfl := Option.some.inj H
    go_wp2
    go_ret
    exact ⟨by first | rfl | (simp [errW_none, errW_some] <;> rfl) | (simp [*, errW_none, errW_some] <;> rfl), by repeat (first | (with_reducible first | exact HB.out | apply below_alloc | apply pw_below_drewN | apply below_drew1 | refine below_set ?_ GE253.out | refine below_set ?_ GE254.out) | exact HB.out)⟩
   ·replace c21 := Bool.eq_false_iff.mpr c21
    subst c21
    have H1 : (jobshellref05_Same.l0 kj2 0 a0_0 a0_1 a0_2 l0_3 a1_0 a1_1 a1_2 l1_3) = some r := by rw [if_neg (show ¬ (false = true) by decide)] at H; exact H
    clear H
    have H := H1
    clear H1
    have H' := Aside0.mk H
    clear H
    go_wp2
    go_loopg [5] kj2 (fun kq v5 w' => ∃ (x5_2 : Int), v5 = .int .i64 x5_2 ∧ Aside0 (jobshellref05_Same.l0 kq x5_2 a0_0 a0_1 a0_2 l0_3 a1_0 a1_1 a1_2 l1_3 = some r) ∧ Aside0 (kq ≤ kj2) ∧ Aside0 (w'.heap[gb253]? = some (.cells #[.int .i64 a0_0, .int .i64 a0_1, .string a0_2, (.slice A0_3 l0_3.length c0_3)] 26 (0, 0))) ∧ Aside0 (w'.heap[gb254]? = some (.cells #[.int .i64 a1_0, .int .i64 a1_1, .string a1_2, (.slice A1_3 l1_3.length c1_3)] 26 (0, 0))) ∧ Aside0 (Below w.heap.size w w'))
    case atStart => exact ⟨(0), (by first | rfl | (simp; done) | (simp [*]; done)), H', ⟨Nat.le_refl _⟩, ⟨by (with_reducible repeat (first | refine blk_drewN ?_ _ | refine blk_drew ?_ | refine blk_alloc ?_ _)); exact BK253.out⟩, ⟨by (with_reducible repeat (first | refine blk_drewN ?_ _ | refine blk_drew ?_ | refine blk_alloc ?_ _)); exact BK254.out⟩, ⟨by repeat (first | (with_reducible first | exact HB.out | apply below_alloc | apply pw_below_drewN | apply below_drew1 | refine below_set ?_ GE253.out | refine below_set ?_ GE254.out) | exact HB.out)⟩⟩
    case round =>
     clear H'
     try clear c1
     try clear c2
     try clear p2
     try clear c6
     try clear c6b0
     try clear c6b1
     try clear c7
     try clear c7b0
     try clear c7b1
     try clear c8
     try clear c8b0
     try clear c8b1
     try clear c9
     try clear c12
     try clear c15
     try clear c18
     try clear c20
     try clear c21
     try clear hcz10_0
     try clear hcz10_1
     try clear hcz10_2
     try clear hcz10_3
     try clear hcz11_0
     try clear hcz11_1
     try clear hcz11_2
     try clear hcz11_3
     try clear hcz13_0
     try clear hcz13_1
     try clear hcz13_2
     try clear hcz13_3
     try clear hcz14_0
     try clear hcz14_1
     try clear hcz14_2
     try clear hcz14_3
     try clear hcz16_0
     try clear hcz16_1
     try clear hcz16_2
     try clear hcz16_3
     try clear hcz17_0
     try clear hcz17_1
     try clear hcz17_2
     try clear hcz17_3
     try clear hcz19_0
     try clear hcz19_1
     try clear hcz19_2
     try clear hcz19_3
     try clear hcz20_0
     try clear hcz20_1
     try clear hcz20_2
     try clear hcz20_3
     try clear hfz10_0
     try clear hfz10_1
     try clear hfz10_2
     try clear hfz10_3
     try clear hfz11_0
     try clear hfz11_1
     try clear hfz11_2
     try clear hfz11_3
     try clear hfz13_0
     try clear hfz13_1
     try clear hfz13_2
     try clear hfz13_3
     try clear hfz14_0
     try clear hfz14_1
     try clear hfz14_2
     try clear hfz14_3
     try clear hfz16_0
     try clear hfz16_1
     try clear hfz16_2
     try clear hfz16_3
     try clear hfz17_0
     try clear hfz17_1
     try clear hfz17_2
     try clear hfz17_3
     try clear hfz19_0
     try clear hfz19_1
     try clear hfz19_2
     try clear hfz19_3
     try clear hfz20_0
     try clear hfz20_1
     try clear hfz20_2
     try clear hfz20_3
     try clear p2
     obtain ⟨x5_2, rfl, HA, HK2, BK253, BK254, HB⟩ := hrel
     cases gk with
     | zero => exact absurd HA.out (by simp [jobshellref05_Same.l0])
     | succ k2 =>
      have H := HA.out
      clear HA
      simp only [jobshellref05_Same.l0] at H
      by_cases c22 : x5_2 < (l0_3.length : Int)
      ·rw [if_pos c22] at H
       have c22b0 : decide (x5_2 < (l0_3.length : Int)) = true := decide_eq_true c22
       clear c22
       by_cases c23 : 0 ≤ x5_2
       ·rw [if_pos c23] at H
        have c23b0 : decide (0 ≤ x5_2) = true := decide_eq_true c23
        clear c23
        by_cases c24 : x5_2 < (l1_3.length : Int)
        ·rw [if_pos c24] at H
         have c24b0 : decide (x5_2 < (l1_3.length : Int)) = true := decide_eq_true c24
         clear c24
         replace H := Option.bind_eq_some_iff.mp H
         obtain ⟨t257, A250, H⟩ := H
         replace H : (if t257 = true then (jobshellref05_Same.l0 k2 (wrap64 (x5_2 + 1)) a0_0 a0_1 a0_2 l0_3 a1_0 a1_1 a1_2 l1_3) else (some false)) = some r := H
         have A25 := Aside0.mk A250
         clear A250
         by_cases c26 : t257 = true
         ·subst c26
          have H1 : (jobshellref05_Same.l0 k2 (wrap64 (x5_2 + 1)) a0_0 a0_1 a0_2 l0_3 a1_0 a1_1 a1_2 l1_3) = some r := by rw [if_pos rfl] at H; exact H
          clear H
          have H := H1
          clear H1
          have H' := Aside0.mk H
          clear H
          have hnb27 := NB253_254.out
          have hnc27 := NB254_253.out
          have hcz28_0 : wr.cell? ⟨gb253, 0, none⟩ = some (.int .i64 a0_0) := (blk_cell BK253.out 0).trans rfl
          have hcz28_1 : wr.cell? ⟨gb253, 1, none⟩ = some (.int .i64 a0_1) := (blk_cell BK253.out 1).trans rfl
          have hcz28_2 : wr.cell? ⟨gb253, 2, none⟩ = some (.string a0_2) := (blk_cell BK253.out 2).trans rfl
          have hcz28_3 : wr.cell? ⟨gb253, 3, none⟩ = some (.slice A0_3 l0_3.length c0_3) := (blk_cell BK253.out 3).trans rfl
          have hfz28_0 := blk_frozen BK253.out 0
          have hfz28_1 := blk_frozen BK253.out 1
          have hfz28_2 := blk_frozen BK253.out 2
          have hfz28_3 := blk_frozen BK253.out 3
          try go_wp2
          have n0_ := Aside0.mk (blk_drew BK253.out)
          have n1_ := Aside0.mk (blk_drew BK254.out)
          have n2_ := Aside0.mk (below_drew1 HB.out)
          clear BK253
          clear BK254
          clear HB
          have BK253 := n0_
          have BK254 := n1_
          have HB := n2_
          clear n0_ n1_ n2_
          have p255 : 0 ≤ (x5_2 : Int) := of_decide_eq_true (by first | (with_reducible assumption) | assumption)
          have q255 : x5_2 < (l0_3.length : Int) := of_decide_eq_true (by first | (with_reducible assumption) | assumption)
          obtain ⟨ad255, A255_3, c255_3, e255, hx255_0, hx255_1, hx255_2, hx255_3, hl255_3, hi255_3⟩ := at_T26 HR0_3.out x5_2 p255 q255
          have hw255_3 := hx255_3
          have hw255_2 := hx255_2
          have hw255_1 := hx255_1
          have hw255_0 := hx255_0
          cases e255
          replace hx255_0 := (HB.out.cell (World.block_lt_of_cell? w _ hx255_0)).trans hx255_0
          replace hx255_1 := (HB.out.cell (World.block_lt_of_cell? w _ hx255_1)).trans hx255_1
          replace hx255_2 := (HB.out.cell (World.block_lt_of_cell? w _ hx255_2)).trans hx255_2
          replace hx255_3 := (HB.out.cell (World.block_lt_of_cell? w _ hx255_3)).trans hx255_3
          have HR255_3 := Aside0.mk hi255_3
          have HC255_3 := Aside0.mk hl255_3
          clear hi255_3 hl255_3
          replace p255 := eq_true p255
          replace q255 := eq_true q255
          have p256 : 0 ≤ (x5_2 : Int) := of_decide_eq_true (by first | (with_reducible assumption) | assumption)
          have q256 : x5_2 < (l1_3.length : Int) := of_decide_eq_true (by first | (with_reducible assumption) | assumption)
          obtain ⟨ad256, A256_3, c256_3, e256, hx256_0, hx256_1, hx256_2, hx256_3, hl256_3, hi256_3⟩ := at_T26 HR1_3.out x5_2 p256 q256
          have hw256_3 := hx256_3
          have hw256_2 := hx256_2
          have hw256_1 := hx256_1
          have hw256_0 := hx256_0
          cases e256
          replace hx256_0 := (HB.out.cell (World.block_lt_of_cell? w _ hx256_0)).trans hx256_0
          replace hx256_1 := (HB.out.cell (World.block_lt_of_cell? w _ hx256_1)).trans hx256_1
          replace hx256_2 := (HB.out.cell (World.block_lt_of_cell? w _ hx256_2)).trans hx256_2
          replace hx256_3 := (HB.out.cell (World.block_lt_of_cell? w _ hx256_3)).trans hx256_3
          have HR256_3 := Aside0.mk hi256_3
          have HC256_3 := Aside0.mk hl256_3
          clear hi256_3 hl256_3
          replace p256 := eq_true p256
          replace q256 := eq_true q256
          refine start_ (n := 12) (S := fun w' => w'.cell? ⟨gb253, 0, none⟩ = some (.int .i64 a0_0) ∧ w'.cell? ⟨gb253, 1, none⟩ = some (.int .i64 a0_1) ∧ w'.cell? ⟨gb253, 2, none⟩ = some (.string a0_2) ∧ w'.cell? ⟨gb253, 3, none⟩ = some (.slice (some ad255) l0_3.length c0_3) ∧ w'.cell? ⟨gb254, 0, none⟩ = some (.int .i64 a1_0) ∧ w'.cell? ⟨gb254, 1, none⟩ = some (.int .i64 a1_1) ∧ w'.cell? ⟨gb254, 2, none⟩ = some (.string a1_2) ∧ w'.cell? ⟨gb254, 3, none⟩ = some (.slice (some ad256) l1_3.length c1_3) ∧ w'.cell? (ad255.add ((x5_2).toNat * 4)) = some (.int .i64 ((rd_T26 l0_3 x5_2).f0)) ∧ w'.cell? ⟨(ad255.add ((x5_2).toNat * 4)).block, (ad255.add ((x5_2).toNat * 4)).off + 1, none⟩ = some (.int .i64 ((rd_T26 l0_3 x5_2).f1)) ∧ w'.cell? ⟨(ad255.add ((x5_2).toNat * 4)).block, (ad255.add ((x5_2).toNat * 4)).off + 2, none⟩ = some (.string ((rd_T26 l0_3 x5_2).f2)) ∧ w'.cell? ⟨(ad255.add ((x5_2).toNat * 4)).block, (ad255.add ((x5_2).toNat * 4)).off + 3, none⟩ = some (.slice A255_3 ((rd_T26 l0_3 x5_2).f3).length c255_3) ∧ w'.cell? (ad256.add ((x5_2).toNat * 4)) = some (.int .i64 ((rd_T26 l1_3 x5_2).f0)) ∧ w'.cell? ⟨(ad256.add ((x5_2).toNat * 4)).block, (ad256.add ((x5_2).toNat * 4)).off + 1, none⟩ = some (.int .i64 ((rd_T26 l1_3 x5_2).f1)) ∧ w'.cell? ⟨(ad256.add ((x5_2).toNat * 4)).block, (ad256.add ((x5_2).toNat * 4)).off + 2, none⟩ = some (.string ((rd_T26 l1_3 x5_2).f2)) ∧ w'.cell? ⟨(ad256.add ((x5_2).toNat * 4)).block, (ad256.add ((x5_2).toNat * 4)).off + 3, none⟩ = some (.slice A256_3 ((rd_T26 l1_3 x5_2).f3).length c256_3)) (ds := []) #[false, false, false, false, false, false, false, false, false, false, false, false] (by kernel_rfl) rfl rfl ⟨(blk_cell BK253.out 0).trans rfl, (blk_cell BK253.out 1).trans rfl, (blk_cell BK253.out 2).trans rfl, (blk_cell BK253.out 3).trans rfl, (blk_cell BK254.out 0).trans rfl, (blk_cell BK254.out 1).trans rfl, (blk_cell BK254.out 2).trans rfl, (blk_cell BK254.out 3).trans rfl, ((HB.out.cell (World.block_lt_of_cell? w _ hw255_0)).trans hw255_0), ((HB.out.cell (World.block_lt_of_cell? w _ hw255_1)).trans hw255_1), ((HB.out.cell (World.block_lt_of_cell? w _ hw255_2)).trans hw255_2), ((HB.out.cell (World.block_lt_of_cell? w _ hw255_3)).trans hw255_3), ((HB.out.cell (World.block_lt_of_cell? w _ hw256_0)).trans hw256_0), ((HB.out.cell (World.block_lt_of_cell? w _ hw256_1)).trans hw256_1), ((HB.out.cell (World.block_lt_of_cell? w _ hw256_2)).trans hw256_2), ((HB.out.cell (World.block_lt_of_cell? w _ hw256_3)).trans hw256_3)⟩ (fun hHeld => ?_); refine with_tabW jobshellref05_Same.tab6 jobshellref05_Same.bits6 (fun HT_ HW_ => ?_)
          generalize wr.drew = w29 at BK253 BK254 HB HR255_3 HR256_3 hx255_0 hx255_1 hx255_2 hx255_3 hx256_0 hx256_1 hx256_2 hx256_3 hHeld ⊢
          refine pure_ (i := 0) (N := some 41) (v := ?_) (a' := ?_) #[true, false, false, false, false, false, false, false, false, false, false, false] rfl rfl (any_of HT_.out (by kernel_rfl)) (fun _ _ _ h => h) (Or.inl ⟨by rfl, ?_⟩) ?_ ?_
          rotate_left
          ·intro w'
           go_simp
           with_reducible rfl
          rotate_left
          ·simp only [Act.put, List.setIfInBounds_toArray, List.set_cons_zero, List.set_cons_succ, i64_w, i32_w]
           rfl
          refine pure_ (i := 2) (N := some 43) (v := ?_) (a' := ?_) #[true, false, true, false, false, false, false, false, false, false, false, false] rfl rfl (any_of HT_.out (by kernel_rfl)) (fun _ _ _ h => h) (Or.inl ⟨by rfl, ?_⟩) ?_ ?_
          rotate_left
          ·intro w'
           go_simp
           with_reducible rfl
          rotate_left
          ·simp only [Act.put, List.setIfInBounds_toArray, List.set_cons_zero, List.set_cons_succ, i64_w, i32_w]
           rfl
          refine pure_ (i := 5) (N := some 46) (v := ?_) (a' := ?_) #[true, false, true, false, false, true, false, false, false, false, false, false] rfl rfl (any_of HT_.out (by kernel_rfl)) (fun _ _ _ h => h) (Or.inl ⟨by rfl, ?_⟩) ?_ ?_
          rotate_left
          ·intro w'
           go_simp
           with_reducible rfl
          rotate_left
          ·simp only [Act.put, List.setIfInBounds_toArray, List.set_cons_zero, List.set_cons_succ, i64_w, i32_w]
           rfl
          refine pure_ (i := 7) (N := some 48) (v := ?_) (a' := ?_) #[true, false, true, false, false, true, false, true, false, false, false, false] rfl rfl (any_of HT_.out (by kernel_rfl)) (fun _ _ _ h => h) (Or.inl ⟨by rfl, ?_⟩) ?_ ?_
          rotate_left
          ·intro w'
           go_simp
           with_reducible rfl
          rotate_left
          ·simp only [Act.put, List.setIfInBounds_toArray, List.set_cons_zero, List.set_cons_succ, i64_w, i32_w]
           rfl
          refine take_ (i := 1) (N := some 42) (v := ?_) (a' := ?_) #[true, true, true, false, false, true, false, true, false, false, false, false] rfl rfl (take_ofW HT_.out HW_.out (by kernel_rfl)) (fun _ _ _ h => h) (Or.inl ⟨by rfl, ?_⟩) hHeld ?_ ?_
          rotate_left
          ·rintro w' ⟨s0, s1, s2, s3, s4, s5, s6, s7, s8, s9, s10, s11, s12, s13, s14, s15⟩
           go_simp
           with_reducible rfl
          rotate_left
          ·simp only [Act.put, List.setIfInBounds_toArray, List.set_cons_zero, List.set_cons_succ, i64_w, i32_w]
           rfl
          refine pure_ (i := 3) (N := some 44) (v := ?_) (a' := ?_) #[true, true, true, true, false, true, false, true, false, false, false, false] rfl rfl (any_of HT_.out (by kernel_rfl)) (fun _ _ _ h => h) (Or.inl ⟨by rfl, ?_⟩) ?_ ?_
          rotate_left
          ·intro w'
           go_simp
           with_reducible rfl
          rotate_left
          ·simp only [Act.put, List.setIfInBounds_toArray, List.set_cons_zero, List.set_cons_succ, i64_w, i32_w]
           rfl
          refine take_ (i := 4) (N := some 45) (v := ?_) (a' := ?_) #[true, true, true, true, true, true, false, true, false, false, false, false] rfl rfl (take_ofW HT_.out HW_.out (by kernel_rfl)) (fun _ _ _ h => h) (Or.inl ⟨by rfl, ?_⟩) hHeld ?_ ?_
          rotate_left
          ·rintro w' ⟨s0, s1, s2, s3, s4, s5, s6, s7, s8, s9, s10, s11, s12, s13, s14, s15⟩
           go_simp
           with_reducible rfl
          rotate_left
          ·simp only [Act.put, List.setIfInBounds_toArray, List.set_cons_zero, List.set_cons_succ, i64_w, i32_w]
           rfl
          refine take_ (i := 6) (N := some 47) (v := ?_) (a' := ?_) #[true, true, true, true, true, true, true, true, false, false, false, false] rfl rfl (take_ofW HT_.out HW_.out (by kernel_rfl)) (fun _ _ _ h => h) (Or.inl ⟨by rfl, ?_⟩) hHeld ?_ ?_
          rotate_left
          ·rintro w' ⟨s0, s1, s2, s3, s4, s5, s6, s7, s8, s9, s10, s11, s12, s13, s14, s15⟩
           go_simp
           with_reducible rfl
          rotate_left
          ·simp only [Act.put, List.setIfInBounds_toArray, List.set_cons_zero, List.set_cons_succ, i64_w, i32_w]
           rfl
          refine pure_ (i := 8) (N := some 49) (v := ?_) (a' := ?_) #[true, true, true, true, true, true, true, true, true, false, false, false] rfl rfl (any_of HT_.out (by kernel_rfl)) (fun _ _ _ h => h) (Or.inl ⟨by rfl, ?_⟩) ?_ ?_
          rotate_left
          ·intro w'
           go_simp
           with_reducible rfl
          rotate_left
          ·simp only [Act.put, List.setIfInBounds_toArray, List.set_cons_zero, List.set_cons_succ, i64_w, i32_w]
           rfl
          refine take_ (i := 9) (N := some 50) (v := ?_) (a' := ?_) #[true, true, true, true, true, true, true, true, true, true, false, false] rfl rfl (take_ofW HT_.out HW_.out (by kernel_rfl)) (fun _ _ _ h => h) (Or.inl ⟨by rfl, ?_⟩) hHeld ?_ ?_
          rotate_left
          ·rintro w' ⟨s0, s1, s2, s3, s4, s5, s6, s7, s8, s9, s10, s11, s12, s13, s14, s15⟩
           go_simp
           with_reducible rfl
          rotate_left
          ·simp only [Act.put, List.setIfInBounds_toArray, List.set_cons_zero, List.set_cons_succ, i64_w, i32_w]
           rfl
          refine one_ (i := 10) (N := some 51) #[true, true, true, true, true, true, true, true, true, true, true, false] rfl rfl (one_of HT_.out (by kernel_rfl)) (by decide) (fun K hK => ?_)
          refine goes_ Tryd.func20 (by kernel_rfl) rfl #[.agg #[.int .i64 ((rd_T26 l0_3 x5_2).f0), .int .i64 ((rd_T26 l0_3 x5_2).f1), .string ((rd_T26 l0_3 x5_2).f2), .slice A255_3 ((rd_T26 l0_3 x5_2).f3).length c255_3], .agg #[.int .i64 ((rd_T26 l1_3 x5_2).f0), .int .i64 ((rd_T26 l1_3 x5_2).f1), .string ((rd_T26 l1_3 x5_2).f2), .slice A256_3 ((rd_T26 l1_3 x5_2).f3).length c256_3]] (by rfl) rfl rfl (by (try simp only [List.map_toArray, List.map_cons, List.map_nil]); first | done | rfl | (simp only [List.length_drop, List.length_take]; rfl)) ?_
          with_reducible refine (ih k2 (by have := HJ2.out; have := HK2.out; omega) ((rd_T26 l0_3 x5_2).f0) ((rd_T26 l0_3 x5_2).f1) ((rd_T26 l0_3 x5_2).f2) _ _ ((rd_T26 l0_3 x5_2).f3) ((rd_T26 l1_3 x5_2).f0) ((rd_T26 l1_3 x5_2).f1) ((rd_T26 l1_3 x5_2).f2) _ _ ((rd_T26 l1_3 x5_2).f3) true _ ?side1 ?side2 ?side3 ?side4 A25.out).mono ?_
          (case side1 => repeat (first | exact (Kd.C_below HR255_3.out HB.out) | (with_reducible refine Kd.C_alloc ?_ _) | (with_reducible refine Kd.C_drewN ?_ _) | (with_reducible refine Kd.C_drew ?_)))
          (case side2 => exact HC255_3.out)
          (case side3 => repeat (first | exact (Kd.C_below HR256_3.out HB.out) | (with_reducible refine Kd.C_alloc ?_ _) | (with_reducible refine Kd.C_drewN ?_ _) | (with_reducible refine Kd.C_drew ?_)))
          (case side4 => exact HC256_3.out)
          rintro e w30 ⟨rfl, hb⟩
          refine ⟨_, rfl, ?_⟩
          have n0_ := Aside0.mk (blk_below (g := gb253) (o := .cells #[.int .i64 a0_0, .int .i64 a0_1, .string a0_2, .slice (some ad255) l0_3.length c0_3] 26 (0, 0)) (by (with_reducible repeat (first | refine blk_drewN ?_ _ | refine blk_drew ?_ | refine blk_alloc ?_ _)); exact BK253.out) hb)
          have n1_ := Aside0.mk (blk_below (g := gb254) (o := .cells #[.int .i64 a1_0, .int .i64 a1_1, .string a1_2, .slice (some ad256) l1_3.length c1_3] 26 (0, 0)) (by (with_reducible repeat (first | refine blk_drewN ?_ _ | refine blk_drew ?_ | refine blk_alloc ?_ _)); exact BK254.out) hb)
          have n2_ := Aside0.mk (below_step (by repeat (first | (with_reducible first | exact HB.out | apply below_alloc | apply pw_below_drewN | apply below_drew1 | refine below_set ?_ GE253.out | refine below_set ?_ GE254.out) | exact HB.out)) hb)
          clear BK253
          clear BK254
          clear HB
          have BK253 := n0_
          have BK254 := n1_
          have HB := n2_
          clear n0_ n1_ n2_
          (try clear hb)
          (try clear hb2)
          (try clear hk)
          (try clear hi)
          refine hK.out _ _ ⟨(blk_cell BK253.out 0).trans rfl, (blk_cell BK253.out 1).trans rfl, (blk_cell BK253.out 2).trans rfl, (blk_cell BK253.out 3).trans rfl, (blk_cell BK254.out 0).trans rfl, (blk_cell BK254.out 1).trans rfl, (blk_cell BK254.out 2).trans rfl, (blk_cell BK254.out 3).trans rfl, ((HB.out.cell (World.block_lt_of_cell? w _ hw255_0)).trans hw255_0), ((HB.out.cell (World.block_lt_of_cell? w _ hw255_1)).trans hw255_1), ((HB.out.cell (World.block_lt_of_cell? w _ hw255_2)).trans hw255_2), ((HB.out.cell (World.block_lt_of_cell? w _ hw255_3)).trans hw255_3), ((HB.out.cell (World.block_lt_of_cell? w _ hw256_0)).trans hw256_0), ((HB.out.cell (World.block_lt_of_cell? w _ hw256_1)).trans hw256_1), ((HB.out.cell (World.block_lt_of_cell? w _ hw256_2)).trans hw256_2), ((HB.out.cell (World.block_lt_of_cell? w _ hw256_3)).trans hw256_3)⟩ (fun hHeld => ?_)
          clear hK K
          refine norm_ (a' := ?_) ?_ ?_
          rotate_left
          ·show Act.put _ (some 51) _ = _
           simp only [Act.put, List.setIfInBounds_toArray, List.set_cons_zero, List.set_cons_succ, i64_w, i32_w]
           rfl
          refine pure_ (i := 11) (N := some 52) (v := ?_) (a' := ?_) #[true, true, true, true, true, true, true, true, true, true, true, true] rfl rfl (any_of HT_.out (by kernel_rfl)) (fun _ _ _ h => h) (Or.inl ⟨by rfl, ?_⟩) ?_ ?_
          rotate_left
          ·intro w'
           go_simp
           with_reducible rfl
          rotate_left
          ·simp only [Act.put, List.setIfInBounds_toArray, List.set_cons_zero, List.set_cons_succ, i64_w, i32_w]
           rfl
          refine done_ (done_of HT_.out (by kernel_rfl)) ?_
          try go_wp2
          go_roundg k2
          case measure => have := HJ2.out; have := HK2.out; omega
          case rel => exact ⟨(wrap64 (x5_2 + 1)), (by first | rfl | (simp; done) | (simp [*]; done)), H', ⟨by have := HJ2.out; have := HK2.out; omega⟩, ⟨by (with_reducible repeat (first | refine blk_drewN ?_ _ | refine blk_drew ?_ | refine blk_alloc ?_ _)); exact BK253.out⟩, ⟨by (with_reducible repeat (first | refine blk_drewN ?_ _ | refine blk_drew ?_ | refine blk_alloc ?_ _)); exact BK254.out⟩, ⟨by repeat (first | (with_reducible first | exact HB.out | apply below_alloc | apply pw_below_drewN | apply below_drew1 | refine below_set ?_ GE253.out | refine below_set ?_ GE254.out) | exact HB.out)⟩⟩
         ·replace c26 := Bool.eq_false_iff.mpr c26
          subst c26
          have H1 : (some false) = some r := by rw [if_neg (show ¬ (false = true) by decide)] at H; exact H
          clear H
          have H := H1
          clear H1
          obtain rfl := Option.some.inj H
          have hnb31 := NB253_254.out
          have hnc31 := NB254_253.out
          have hcz32_0 : wr.cell? ⟨gb253, 0, none⟩ = some (.int .i64 a0_0) := (blk_cell BK253.out 0).trans rfl
          have hcz32_1 : wr.cell? ⟨gb253, 1, none⟩ = some (.int .i64 a0_1) := (blk_cell BK253.out 1).trans rfl
          have hcz32_2 : wr.cell? ⟨gb253, 2, none⟩ = some (.string a0_2) := (blk_cell BK253.out 2).trans rfl
          have hcz32_3 : wr.cell? ⟨gb253, 3, none⟩ = some (.slice A0_3 l0_3.length c0_3) := (blk_cell BK253.out 3).trans rfl
          have hfz32_0 := blk_frozen BK253.out 0
          have hfz32_1 := blk_frozen BK253.out 1
          have hfz32_2 := blk_frozen BK253.out 2
          have hfz32_3 := blk_frozen BK253.out 3
          try go_wp2
          have n0_ := Aside0.mk (blk_drew BK253.out)
          have n1_ := Aside0.mk (blk_drew BK254.out)
          have n2_ := Aside0.mk (below_drew1 HB.out)
          clear BK253
          clear BK254
          clear HB
          have BK253 := n0_
          have BK254 := n1_
          have HB := n2_
          clear n0_ n1_ n2_
          have p255 : 0 ≤ (x5_2 : Int) := of_decide_eq_true (by first | (with_reducible assumption) | assumption)
          have q255 : x5_2 < (l0_3.length : Int) := of_decide_eq_true (by first | (with_reducible assumption) | assumption)
          obtain ⟨ad255, A255_3, c255_3, e255, hx255_0, hx255_1, hx255_2, hx255_3, hl255_3, hi255_3⟩ := at_T26 HR0_3.out x5_2 p255 q255
          have hw255_3 := hx255_3
          have hw255_2 := hx255_2
          have hw255_1 := hx255_1
          have hw255_0 := hx255_0
          cases e255
          replace hx255_0 := (HB.out.cell (World.block_lt_of_cell? w _ hx255_0)).trans hx255_0
          replace hx255_1 := (HB.out.cell (World.block_lt_of_cell? w _ hx255_1)).trans hx255_1
          replace hx255_2 := (HB.out.cell (World.block_lt_of_cell? w _ hx255_2)).trans hx255_2
          replace hx255_3 := (HB.out.cell (World.block_lt_of_cell? w _ hx255_3)).trans hx255_3
          have HR255_3 := Aside0.mk hi255_3
          have HC255_3 := Aside0.mk hl255_3
          clear hi255_3 hl255_3
          replace p255 := eq_true p255
          replace q255 := eq_true q255
          have p256 : 0 ≤ (x5_2 : Int) := of_decide_eq_true (by first | (with_reducible assumption) | assumption)
          have q256 : x5_2 < (l1_3.length : Int) := of_decide_eq_true (by first | (with_reducible assumption) | assumption)
          obtain ⟨ad256, A256_3, c256_3, e256, hx256_0, hx256_1, hx256_2, hx256_3, hl256_3, hi256_3⟩ := at_T26 HR1_3.out x5_2 p256 q256
          have hw256_3 := hx256_3
          have hw256_2 := hx256_2
          have hw256_1 := hx256_1
          have hw256_0 := hx256_0
          cases e256
          replace hx256_0 := (HB.out.cell (World.block_lt_of_cell? w _ hx256_0)).trans hx256_0
          replace hx256_1 := (HB.out.cell (World.block_lt_of_cell? w _ hx256_1)).trans hx256_1
          replace hx256_2 := (HB.out.cell (World.block_lt_of_cell? w _ hx256_2)).trans hx256_2
          replace hx256_3 := (HB.out.cell (World.block_lt_of_cell? w _ hx256_3)).trans hx256_3
          have HR256_3 := Aside0.mk hi256_3
          have HC256_3 := Aside0.mk hl256_3
          clear hi256_3 hl256_3
          replace p256 := eq_true p256
          replace q256 := eq_true q256
          refine start_ (n := 12) (S := fun w' => w'.cell? ⟨gb253, 0, none⟩ = some (.int .i64 a0_0) ∧ w'.cell? ⟨gb253, 1, none⟩ = some (.int .i64 a0_1) ∧ w'.cell? ⟨gb253, 2, none⟩ = some (.string a0_2) ∧ w'.cell? ⟨gb253, 3, none⟩ = some (.slice (some ad255) l0_3.length c0_3) ∧ w'.cell? ⟨gb254, 0, none⟩ = some (.int .i64 a1_0) ∧ w'.cell? ⟨gb254, 1, none⟩ = some (.int .i64 a1_1) ∧ w'.cell? ⟨gb254, 2, none⟩ = some (.string a1_2) ∧ w'.cell? ⟨gb254, 3, none⟩ = some (.slice (some ad256) l1_3.length c1_3) ∧ w'.cell? (ad255.add ((x5_2).toNat * 4)) = some (.int .i64 ((rd_T26 l0_3 x5_2).f0)) ∧ w'.cell? ⟨(ad255.add ((x5_2).toNat * 4)).block, (ad255.add ((x5_2).toNat * 4)).off + 1, none⟩ = some (.int .i64 ((rd_T26 l0_3 x5_2).f1)) ∧ w'.cell? ⟨(ad255.add ((x5_2).toNat * 4)).block, (ad255.add ((x5_2).toNat * 4)).off + 2, none⟩ = some (.string ((rd_T26 l0_3 x5_2).f2)) ∧ w'.cell? ⟨(ad255.add ((x5_2).toNat * 4)).block, (ad255.add ((x5_2).toNat * 4)).off + 3, none⟩ = some (.slice A255_3 ((rd_T26 l0_3 x5_2).f3).length c255_3) ∧ w'.cell? (ad256.add ((x5_2).toNat * 4)) = some (.int .i64 ((rd_T26 l1_3 x5_2).f0)) ∧ w'.cell? ⟨(ad256.add ((x5_2).toNat * 4)).block, (ad256.add ((x5_2).toNat * 4)).off + 1, none⟩ = some (.int .i64 ((rd_T26 l1_3 x5_2).f1)) ∧ w'.cell? ⟨(ad256.add ((x5_2).toNat * 4)).block, (ad256.add ((x5_2).toNat * 4)).off + 2, none⟩ = some (.string ((rd_T26 l1_3 x5_2).f2)) ∧ w'.cell? ⟨(ad256.add ((x5_2).toNat * 4)).block, (ad256.add ((x5_2).toNat * 4)).off + 3, none⟩ = some (.slice A256_3 ((rd_T26 l1_3 x5_2).f3).length c256_3)) (ds := []) #[false, false, false, false, false, false, false, false, false, false, false, false] (by kernel_rfl) rfl rfl ⟨(blk_cell BK253.out 0).trans rfl, (blk_cell BK253.out 1).trans rfl, (blk_cell BK253.out 2).trans rfl, (blk_cell BK253.out 3).trans rfl, (blk_cell BK254.out 0).trans rfl, (blk_cell BK254.out 1).trans rfl, (blk_cell BK254.out 2).trans rfl, (blk_cell BK254.out 3).trans rfl, ((HB.out.cell (World.block_lt_of_cell? w _ hw255_0)).trans hw255_0), ((HB.out.cell (World.block_lt_of_cell? w _ hw255_1)).trans hw255_1), ((HB.out.cell (World.block_lt_of_cell? w _ hw255_2)).trans hw255_2), ((HB.out.cell (World.block_lt_of_cell? w _ hw255_3)).trans hw255_3), ((HB.out.cell (World.block_lt_of_cell? w _ hw256_0)).trans hw256_0), ((HB.out.cell (World.block_lt_of_cell? w _ hw256_1)).trans hw256_1), ((HB.out.cell (World.block_lt_of_cell? w _ hw256_2)).trans hw256_2), ((HB.out.cell (World.block_lt_of_cell? w _ hw256_3)).trans hw256_3)⟩ (fun hHeld => ?_); refine with_tabW jobshellref05_Same.tab6 jobshellref05_Same.bits6 (fun HT_ HW_ => ?_)
          generalize wr.drew = w33 at BK253 BK254 HB HR255_3 HR256_3 hx255_0 hx255_1 hx255_2 hx255_3 hx256_0 hx256_1 hx256_2 hx256_3 hHeld ⊢
          refine pure_ (i := 0) (N := some 41) (v := ?_) (a' := ?_) #[true, false, false, false, false, false, false, false, false, false, false, false] rfl rfl (any_of HT_.out (by kernel_rfl)) (fun _ _ _ h => h) (Or.inl ⟨by rfl, ?_⟩) ?_ ?_
          rotate_left
          ·intro w'
           go_simp
           with_reducible rfl
          rotate_left
          ·simp only [Act.put, List.setIfInBounds_toArray, List.set_cons_zero, List.set_cons_succ, i64_w, i32_w]
           rfl
          refine pure_ (i := 2) (N := some 43) (v := ?_) (a' := ?_) #[true, false, true, false, false, false, false, false, false, false, false, false] rfl rfl (any_of HT_.out (by kernel_rfl)) (fun _ _ _ h => h) (Or.inl ⟨by rfl, ?_⟩) ?_ ?_
          rotate_left
          ·intro w'
           go_simp
           with_reducible rfl
          rotate_left
          ·simp only [Act.put, List.setIfInBounds_toArray, List.set_cons_zero, List.set_cons_succ, i64_w, i32_w]
           rfl
          refine pure_ (i := 5) (N := some 46) (v := ?_) (a' := ?_) #[true, false, true, false, false, true, false, false, false, false, false, false] rfl rfl (any_of HT_.out (by kernel_rfl)) (fun _ _ _ h => h) (Or.inl ⟨by rfl, ?_⟩) ?_ ?_
          rotate_left
          ·intro w'
           go_simp
           with_reducible rfl
          rotate_left
          ·simp only [Act.put, List.setIfInBounds_toArray, List.set_cons_zero, List.set_cons_succ, i64_w, i32_w]
           rfl
          refine pure_ (i := 7) (N := some 48) (v := ?_) (a' := ?_) #[true, false, true, false, false, true, false, true, false, false, false, false] rfl rfl (any_of HT_.out (by kernel_rfl)) (fun _ _ _ h => h) (Or.inl ⟨by rfl, ?_⟩) ?_ ?_
          rotate_left
          ·intro w'
           go_simp
           with_reducible rfl
          rotate_left
          ·simp only [Act.put, List.setIfInBounds_toArray, List.set_cons_zero, List.set_cons_succ, i64_w, i32_w]
           rfl
          refine take_ (i := 1) (N := some 42) (v := ?_) (a' := ?_) #[true, true, true, false, false, true, false, true, false, false, false, false] rfl rfl (take_ofW HT_.out HW_.out (by kernel_rfl)) (fun _ _ _ h => h) (Or.inl ⟨by rfl, ?_⟩) hHeld ?_ ?_
          rotate_left
          ·rintro w' ⟨s0, s1, s2, s3, s4, s5, s6, s7, s8, s9, s10, s11, s12, s13, s14, s15⟩
           go_simp
           with_reducible rfl
          rotate_left
          ·simp only [Act.put, List.setIfInBounds_toArray, List.set_cons_zero, List.set_cons_succ, i64_w, i32_w]
           rfl
          refine pure_ (i := 3) (N := some 44) (v := ?_) (a' := ?_) #[true, true, true, true, false, true, false, true, false, false, false, false] rfl rfl (any_of HT_.out (by kernel_rfl)) (fun _ _ _ h => h) (Or.inl ⟨by rfl, ?_⟩) ?_ ?_
          rotate_left
          ·intro w'
           go_simp
           with_reducible rfl
          rotate_left
          ·simp only [Act.put, List.setIfInBounds_toArray, List.set_cons_zero, List.set_cons_succ, i64_w, i32_w]
           rfl
          refine take_ (i := 4) (N := some 45) (v := ?_) (a' := ?_) #[true, true, true, true, true, true, false, true, false, false, false, false] rfl rfl (take_ofW HT_.out HW_.out (by kernel_rfl)) (fun _ _ _ h => h) (Or.inl ⟨by rfl, ?_⟩) hHeld ?_ ?_
          rotate_left
          ·rintro w' ⟨s0, s1, s2, s3, s4, s5, s6, s7, s8, s9, s10, s11, s12, s13, s14, s15⟩
           go_simp
           with_reducible rfl
          rotate_left
          ·simp only [Act.put, List.setIfInBounds_toArray, List.set_cons_zero, List.set_cons_succ, i64_w, i32_w]
           rfl
          refine take_ (i := 6) (N := some 47) (v := ?_) (a' := ?_) #[true, true, true, true, true, true, true, true, false, false, false, false] rfl rfl (take_ofW HT_.out HW_.out (by kernel_rfl)) (fun _ _ _ h => h) (Or.inl ⟨by rfl, ?_⟩) hHeld ?_ ?_
          rotate_left
          ·rintro w' ⟨s0, s1, s2, s3, s4, s5, s6, s7, s8, s9, s10, s11, s12, s13, s14, s15⟩
           go_simp
           with_reducible rfl
          rotate_left
          ·simp only [Act.put, List.setIfInBounds_toArray, List.set_cons_zero, List.set_cons_succ, i64_w, i32_w]
           rfl
          refine pure_ (i := 8) (N := some 49) (v := ?_) (a' := ?_) #[true, true, true, true, true, true, true, true, true, false, false, false] rfl rfl (any_of HT_.out (by kernel_rfl)) (fun _ _ _ h => h) (Or.inl ⟨by rfl, ?_⟩) ?_ ?_
          rotate_left
          ·intro w'
           go_simp
           with_reducible rfl
          rotate_left
          ·simp only [Act.put, List.setIfInBounds_toArray, List.set_cons_zero, List.set_cons_succ, i64_w, i32_w]
           rfl
          refine take_ (i := 9) (N := some 50) (v := ?_) (a' := ?_) #[true, true, true, true, true, true, true, true, true, true, false, false] rfl rfl (take_ofW HT_.out HW_.out (by kernel_rfl)) (fun _ _ _ h => h) (Or.inl ⟨by rfl, ?_⟩) hHeld ?_ ?_
          rotate_left
          ·rintro w' ⟨s0, s1, s2, s3, s4, s5, s6, s7, s8, s9, s10, s11, s12, s13, s14, s15⟩
           go_simp
           with_reducible rfl
          rotate_left
          ·simp only [Act.put, List.setIfInBounds_toArray, List.set_cons_zero, List.set_cons_succ, i64_w, i32_w]
           rfl
          refine one_ (i := 10) (N := some 51) #[true, true, true, true, true, true, true, true, true, true, true, false] rfl rfl (one_of HT_.out (by kernel_rfl)) (by decide) (fun K hK => ?_)
          refine goes_ Tryd.func20 (by kernel_rfl) rfl #[.agg #[.int .i64 ((rd_T26 l0_3 x5_2).f0), .int .i64 ((rd_T26 l0_3 x5_2).f1), .string ((rd_T26 l0_3 x5_2).f2), .slice A255_3 ((rd_T26 l0_3 x5_2).f3).length c255_3], .agg #[.int .i64 ((rd_T26 l1_3 x5_2).f0), .int .i64 ((rd_T26 l1_3 x5_2).f1), .string ((rd_T26 l1_3 x5_2).f2), .slice A256_3 ((rd_T26 l1_3 x5_2).f3).length c256_3]] (by rfl) rfl rfl (by (try simp only [List.map_toArray, List.map_cons, List.map_nil]); first | done | rfl | (simp only [List.length_drop, List.length_take]; rfl)) ?_
          with_reducible refine (ih k2 (by have := HJ2.out; have := HK2.out; omega) ((rd_T26 l0_3 x5_2).f0) ((rd_T26 l0_3 x5_2).f1) ((rd_T26 l0_3 x5_2).f2) _ _ ((rd_T26 l0_3 x5_2).f3) ((rd_T26 l1_3 x5_2).f0) ((rd_T26 l1_3 x5_2).f1) ((rd_T26 l1_3 x5_2).f2) _ _ ((rd_T26 l1_3 x5_2).f3) false _ ?side1 ?side2 ?side3 ?side4 A25.out).mono ?_
          (case side1 => repeat (first | exact (Kd.C_below HR255_3.out HB.out) | (with_reducible refine Kd.C_alloc ?_ _) | (with_reducible refine Kd.C_drewN ?_ _) | (with_reducible refine Kd.C_drew ?_)))
          (case side2 => exact HC255_3.out)
          (case side3 => repeat (first | exact (Kd.C_below HR256_3.out HB.out) | (with_reducible refine Kd.C_alloc ?_ _) | (with_reducible refine Kd.C_drewN ?_ _) | (with_reducible refine Kd.C_drew ?_)))
          (case side4 => exact HC256_3.out)
          rintro e w34 ⟨rfl, hb⟩
          refine ⟨_, rfl, ?_⟩
          have n0_ := Aside0.mk (blk_below (g := gb253) (o := .cells #[.int .i64 a0_0, .int .i64 a0_1, .string a0_2, .slice (some ad255) l0_3.length c0_3] 26 (0, 0)) (by (with_reducible repeat (first | refine blk_drewN ?_ _ | refine blk_drew ?_ | refine blk_alloc ?_ _)); exact BK253.out) hb)
          have n1_ := Aside0.mk (blk_below (g := gb254) (o := .cells #[.int .i64 a1_0, .int .i64 a1_1, .string a1_2, .slice (some ad256) l1_3.length c1_3] 26 (0, 0)) (by (with_reducible repeat (first | refine blk_drewN ?_ _ | refine blk_drew ?_ | refine blk_alloc ?_ _)); exact BK254.out) hb)
          have n2_ := Aside0.mk (below_step (by repeat (first | (with_reducible first | exact HB.out | apply below_alloc | apply pw_below_drewN | apply below_drew1 | refine below_set ?_ GE253.out | refine below_set ?_ GE254.out) | exact HB.out)) hb)
          clear BK253
          clear BK254
          clear HB
          have BK253 := n0_
          have BK254 := n1_
          have HB := n2_
          clear n0_ n1_ n2_
          (try clear hb)
          (try clear hb2)
          (try clear hk)
          (try clear hi)
          refine hK.out _ _ ⟨(blk_cell BK253.out 0).trans rfl, (blk_cell BK253.out 1).trans rfl, (blk_cell BK253.out 2).trans rfl, (blk_cell BK253.out 3).trans rfl, (blk_cell BK254.out 0).trans rfl, (blk_cell BK254.out 1).trans rfl, (blk_cell BK254.out 2).trans rfl, (blk_cell BK254.out 3).trans rfl, ((HB.out.cell (World.block_lt_of_cell? w _ hw255_0)).trans hw255_0), ((HB.out.cell (World.block_lt_of_cell? w _ hw255_1)).trans hw255_1), ((HB.out.cell (World.block_lt_of_cell? w _ hw255_2)).trans hw255_2), ((HB.out.cell (World.block_lt_of_cell? w _ hw255_3)).trans hw255_3), ((HB.out.cell (World.block_lt_of_cell? w _ hw256_0)).trans hw256_0), ((HB.out.cell (World.block_lt_of_cell? w _ hw256_1)).trans hw256_1), ((HB.out.cell (World.block_lt_of_cell? w _ hw256_2)).trans hw256_2), ((HB.out.cell (World.block_lt_of_cell? w _ hw256_3)).trans hw256_3)⟩ (fun hHeld => ?_)
          clear hK K
          refine norm_ (a' := ?_) ?_ ?_
          rotate_left
          ·show Act.put _ (some 51) _ = _
           simp only [Act.put, List.setIfInBounds_toArray, List.set_cons_zero, List.set_cons_succ, i64_w, i32_w]
           rfl
          refine pure_ (i := 11) (N := some 52) (v := ?_) (a' := ?_) #[true, true, true, true, true, true, true, true, true, true, true, true] rfl rfl (any_of HT_.out (by kernel_rfl)) (fun _ _ _ h => h) (Or.inl ⟨by rfl, ?_⟩) ?_ ?_
          rotate_left
          ·intro w'
           go_simp
           with_reducible rfl
          rotate_left
          ·simp only [Act.put, List.setIfInBounds_toArray, List.set_cons_zero, List.set_cons_succ, i64_w, i32_w]
           rfl
          refine done_ (done_of HT_.out (by kernel_rfl)) ?_
          try go_wp2
          go_ret
          exact ⟨by first | rfl | (simp [errW_none, errW_some] <;> rfl) | (simp [*, errW_none, errW_some] <;> rfl), by repeat (first | (with_reducible first | exact HB.out | apply below_alloc | apply pw_below_drewN | apply below_drew1 | refine below_set ?_ GE253.out | refine below_set ?_ GE254.out) | exact HB.out)⟩
        ·rw [if_neg c24] at H
         exact absurd H (by simp)
       ·rw [if_neg c23] at H
        exact absurd H (by simp)
      ·rw [if_neg c22] at H
       have c22b0 : decide (x5_2 < (l0_3.length : Int)) = false := decide_eq_false c22
       clear c22
       obtain rfl := Option.some.inj H
       have hnb35 := NB253_254.out
       have hnc35 := NB254_253.out
       have hcz36_0 : wr.cell? ⟨gb253, 0, none⟩ = some (.int .i64 a0_0) := (blk_cell BK253.out 0).trans rfl
       have hcz36_1 : wr.cell? ⟨gb253, 1, none⟩ = some (.int .i64 a0_1) := (blk_cell BK253.out 1).trans rfl
       have hcz36_2 : wr.cell? ⟨gb253, 2, none⟩ = some (.string a0_2) := (blk_cell BK253.out 2).trans rfl
       have hcz36_3 : wr.cell? ⟨gb253, 3, none⟩ = some (.slice A0_3 l0_3.length c0_3) := (blk_cell BK253.out 3).trans rfl
       have hfz36_0 := blk_frozen BK253.out 0
       have hfz36_1 := blk_frozen BK253.out 1
       have hfz36_2 := blk_frozen BK253.out 2
       have hfz36_3 := blk_frozen BK253.out 3
       go_wp2
       go_ret
       exact ⟨by first | rfl | (simp [errW_none, errW_some] <;> rfl) | (simp [*, errW_none, errW_some] <;> rfl), by repeat (first | (with_reducible first | exact HB.out | apply below_alloc | apply pw_below_drewN | apply below_drew1 | refine below_set ?_ GE253.out | refine below_set ?_ GE254.out) | exact HB.out)⟩
end Go.Proofs.YtglmdfddgmkmaaaDoor.Q
end
section
namespace Go.Proofs.YtglmdfddgmkmaaaDoor.Q
open Go.RowKit Go.Proofs.YtglmdfddgmkmaaaDoorW.PrintWords Go.Proofs.YtglmdfddgmkmaaaDoorW.PrintLast Go.Proofs.YtglmdfddgmkmaaaDoorW.PrintMore
attribute [local go_sem] max2_int min2_int max_two min_two max_three min_three max_four min_four
set_option linter.unusedVariables false
set_option linter.unusedSimpArgs false
/-- A state of type 70 at block g of W; what its slices lead to came in by w0. -/
def IsS70 (w0 W : World) (g : Nat) (f0 : ByteArray) (f1 : Int) (f2 : Int) (f3 : Int) : Prop := W.heap[g]? = some (.cells #[.string f0, .int .i64 f1, .int .i64 f2, .int .i64 f3] 70 (0, 0)) ∧ w0.heap.size ≤ g
theorem IsS70.grown {w0 W : World} {g : Nat} {f0 : ByteArray} {f1 : Int} {f2 : Int} {f3 : Int} {W1 : World} {row : Option Nat} (h : IsS70 w0 W g f0 f1 f2 f3) (hw : W.grownBy W1 row) (hne : some g ≠ row) : IsS70 w0 W1 g f0 f1 f2 f3 := by
 obtain ⟨hb, hg⟩ := h
 exact ⟨blk_grown hb hw hne, hg⟩
theorem IsS70.kept {w0 W : World} {g : Nat} {f0 : ByteArray} {f1 : Int} {f2 : Int} {f3 : Int} {W1 : World} {S : Nat → Prop} (h : IsS70 w0 W g f0 f1 f2 f3) (hk : Kept W W1 S) (hne : ¬ S g) : IsS70 w0 W1 g f0 f1 f2 f3 := by
 obtain ⟨hb, hg⟩ := h
 exact ⟨blk_kept hb hk hne, hg⟩
theorem IsS70.below {w0 W : World} {g : Nat} {f0 : ByteArray} {f1 : Int} {f2 : Int} {f3 : Int} {W1 : World} (h : IsS70 w0 W g f0 f1 f2 f3) (hw : Below W.heap.size W W1) : IsS70 w0 W1 g f0 f1 f2 f3 := h.grown (grown_of_below hw none) (by simp)
theorem IsS70.alloc {w0 W : World} {g : Nat} {f0 : ByteArray} {f1 : Int} {f2 : Int} {f3 : Int} (h : IsS70 w0 W g f0 f1 f2 f3) (o : Obj) : IsS70 w0 (W.alloc o) g f0 f1 f2 f3 := h.below (below_alloc (Below.refl _ _) o)
theorem IsS70.drewN {w0 W : World} {g : Nat} {f0 : ByteArray} {f1 : Int} {f2 : Int} {f3 : Int} (h : IsS70 w0 W g f0 f1 f2 f3) (m : Nat) : IsS70 w0 (W.drewN m) g f0 f1 f2 f3 := h
theorem IsS70.drew {w0 W : World} {g : Nat} {f0 : ByteArray} {f1 : Int} {f2 : Int} {f3 : Int} (h : IsS70 w0 W g f0 f1 f2 f3) : IsS70 w0 W.drew g f0 f1 f2 f3 := h
theorem IsS70.at_ {w0 W : World} {g : Nat} {f0 : ByteArray} {f1 : Int} {f2 : Int} {f3 : Int} {w' : World} {m : Nat} (hq : W.drewN m = w') (h : IsS70 w0 W g f0 f1 f2 f3) : IsS70 w0 w' g f0 f1 f2 f3 := by subst hq; exact IsS70.drewN h m
theorem IsS70.apart {w0 W : World} {g : Nat} {f0 : ByteArray} {f1 : Int} {f2 : Int} {f3 : Int} {α : Type} {d : Kd α} {e : Nat} {base : Nat} {ok : Nat → Prop} {v : Value} {xs : List α} (h : IsS70 w0 W g f0 f1 f2 f3) (ho : d.R e W base ok v xs) (ht : ∀ q, q ∈ e :: d.E → q ≠ 70) : d.R e W base (fun k => ok k ∧ k ≠ g) v xs := by
 obtain ⟨hb, hg⟩ := h
 exact Kd.R_types ho hb ht
theorem IsS70.own_ne {w0 W : World} {g : Nat} {f0 : ByteArray} {f1 : Int} {f2 : Int} {f3 : Int} {α : Type} {d : Kd α} {e : Nat} {base : Nat} {ok : Nat → Prop} {v : Value} {xs : List α} (h : IsS70 w0 W g f0 f1 f2 f3) (ho : d.R e W base ok v xs) (ht : e ≠ 70) : some g ≠ v.ownBlock := by
 obtain ⟨hb, hg⟩ := h
 exact Kd.R_ne ho hb ht
theorem IsS70.lt {w0 W : World} {g : Nat} {f0 : ByteArray} {f1 : Int} {f2 : Int} {f3 : Int} (h : IsS70 w0 W g f0 f1 f2 f3) : g < W.heap.size := by
 obtain ⟨hb, hg⟩ := h
 exact blk_lt hb
theorem IsS70.ge {w0 W : World} {g : Nat} {f0 : ByteArray} {f1 : Int} {f2 : Int} {f3 : Int} (h : IsS70 w0 W g f0 f1 f2 f3) : w0.heap.size ≤ g := by
 obtain ⟨hb, hg⟩ := h
 exact hg
theorem IsS70.far {w0 W : World} {g : Nat} {f0 : ByteArray} {f1 : Int} {f2 : Int} {f3 : Int} {p : Addr} (h : IsS70 w0 W g f0 f1 f2 f3) (hne : g ≠ p.block) (u : Value) : IsS70 w0 (W.setCell p u) g f0 f1 f2 f3 := by
 obtain ⟨hb, hg⟩ := h
 exact ⟨blk_far hb hne u, hg⟩
theorem IsS70.set_0 {w0 W : World} {g : Nat} {f0 : ByteArray} {f1 : Int} {f2 : Int} {f3 : Int} (h : IsS70 w0 W g f0 f1 f2 f3) (x : ByteArray) : IsS70 w0 (W.setCell ⟨g, 0, none⟩ (.string x)) g x f1 f2 f3 := by
 obtain ⟨hb, hg⟩ := h
 exact ⟨by simpa using blk_set hb 0 (.string x), hg⟩
theorem IsS70.set_1 {w0 W : World} {g : Nat} {f0 : ByteArray} {f1 : Int} {f2 : Int} {f3 : Int} (h : IsS70 w0 W g f0 f1 f2 f3) (x : Int) : IsS70 w0 (W.setCell ⟨g, 1, none⟩ (.int .i64 x)) g f0 x f2 f3 := by
 obtain ⟨hb, hg⟩ := h
 exact ⟨by simpa using blk_set hb 1 (.int .i64 x), hg⟩
theorem IsS70.set_2 {w0 W : World} {g : Nat} {f0 : ByteArray} {f1 : Int} {f2 : Int} {f3 : Int} (h : IsS70 w0 W g f0 f1 f2 f3) (x : Int) : IsS70 w0 (W.setCell ⟨g, 2, none⟩ (.int .i64 x)) g f0 f1 x f3 := by
 obtain ⟨hb, hg⟩ := h
 exact ⟨by simpa using blk_set hb 2 (.int .i64 x), hg⟩
theorem IsS70.new (w0 W : World) (f0 : ByteArray) (f1 : Int) (f2 : Int) (f3 : Int) (hB : Below w0.heap.size w0 W) : IsS70 w0 (W.alloc (.cells #[.string f0, .int .i64 f1, .int .i64 f2, .int .i64 f3] 70)) W.heap.size f0 f1 f2 f3 := ⟨by simpa using heap_alloc_new W _, hB.size⟩
end Go.Proofs.YtglmdfddgmkmaaaDoor.Q
end
section
namespace Go.Proofs.YtglmdfddgmkmaaaDoor.Q
open Go.RowKit Go.Proofs.YtglmdfddgmkmaaaDoorW.PrintWords Go.Proofs.YtglmdfddgmkmaaaDoorW.PrintLast Go.Proofs.YtglmdfddgmkmaaaDoorW.PrintMore
attribute [local go_sem] max2_int min2_int max_two min_two max_three min_three max_four min_four
set_option linter.unusedVariables false
set_option linter.unusedSimpArgs false
def jobshelllaw05_blank.l0 : Nat → ByteArray → Int → Option (Bool)
 | 0, _, _ => none
 | k + 1, x0, x3 => if x3 < (x0.size : Int) then (if 0 ≤ x3 then (if (bt x0 x3) = 9 then (jobshelllaw05_blank.l0 k x0 (wrap64 (x3 + 1))) else (if (bt x0 x3) = 10 then (jobshelllaw05_blank.l0 k x0 (wrap64 (x3 + 1))) else (if (bt x0 x3) = 32 then (jobshelllaw05_blank.l0 k x0 (wrap64 (x3 + 1))) else (some false)))) else (none)) else (some true)
def jobshelllaw05_blank.f (k : Nat) (a0 : ByteArray) : Option (Bool) := jobshelllaw05_blank.l0 k a0 0
set_option maxHeartbeats 8000000 in
set_option maxRecDepth 100000 in
theorem jobshelllaw05_blank.calls (k : Nat) (a0 : ByteArray) (r : Bool) (w : World) (h : jobshelllaw05_blank.f k a0 = some r) :
 Calls Tryd.prog 29 #[.string a0] w fun e w' => e = .returned (.bool r) ∧ Drawn0 w w' := by
 have H : (jobshelllaw05_blank.l0 k a0 0) = some r := h
 clear h
 have H' := Aside0.mk H
 clear H
 go_enter Tryd.func29, Tryd.ntmps29
 go_wp2
 go_loopg [3] k (fun kq v3 w' => ∃ (x3_1 : Int), v3 = .int .i64 x3_1 ∧ Aside0 (jobshelllaw05_blank.l0 kq a0 x3_1 = some r) ∧ Aside0 (kq ≤ k) ∧ Drawn0 w w')
 case atStart => exact ⟨(0), (by first | rfl | (simp; done) | (simp [*]; done)), H', ⟨Nat.le_refl _⟩, by repeat (first | exact Drawn0.refl _ | apply Drawn0.step)⟩
 case round =>
  clear H'
  obtain ⟨x3_1, rfl, HA, HK1, ⟨m1, rfl⟩⟩ := hrel
  cases gk with
  | zero => exact absurd HA.out (by simp [jobshelllaw05_blank.l0])
  | succ k1 =>
   have H := HA.out
   clear HA
   simp only [jobshelllaw05_blank.l0] at H
   by_cases c2 : x3_1 < (a0.size : Int)
   ·rw [if_pos c2] at H
    have c2b0 : decide (x3_1 < (a0.size : Int)) = true := decide_eq_true c2
    clear c2
    by_cases c3 : 0 ≤ x3_1
    ·rw [if_pos c3] at H
     have c3b0 : decide (0 ≤ x3_1) = true := decide_eq_true c3
     clear c3
     by_cases c5 : (bt a0 x3_1) = 9
     ·rw [if_pos c5] at H
      have c5b0 : ((bt a0 x3_1) == 9) = true := beq_iff_eq.mpr c5
      have c5b1 : ((bt a0 x3_1) != 9) = false := bne_eq_false_iff_eq.mpr c5
      clear c5
      have H' := Aside0.mk H
      clear H
      have p4 : 0 ≤ (x3_1 : Int) := of_decide_eq_true (by first | (with_reducible assumption) | assumption)
      have q4 : x3_1 < (a0.size : Int) := of_decide_eq_true (by first | (with_reducible assumption) | assumption)
      have hx4 := bt_at a0 x3_1
      replace p4 := eq_true p4
      replace q4 := eq_true q4
      go_wp2
      go_roundg k1
      case measure => have := HK1.out; omega
      case rel => exact ⟨(wrap64 (x3_1 + 1)), (by first | rfl | (simp; done) | (simp [*]; done)), H', ⟨by have := HK1.out; omega⟩, by repeat (first | exact Drawn0.refl _ | apply Drawn0.step)⟩
     ·rw [if_neg c5] at H
      have c5b0 : ((bt a0 x3_1) == 9) = false := beq_eq_false_iff_ne.mpr c5
      have c5b1 : ((bt a0 x3_1) != 9) = true := bne_iff_ne.mpr c5
      by_cases c7 : (bt a0 x3_1) = 10
      ·rw [if_pos c7] at H
       have c7b0 : ((bt a0 x3_1) == 10) = true := beq_iff_eq.mpr c7
       have c7b1 : ((bt a0 x3_1) != 10) = false := bne_eq_false_iff_eq.mpr c7
       clear c7
       have H' := Aside0.mk H
       clear H
       have p4 : 0 ≤ (x3_1 : Int) := of_decide_eq_true (by first | (with_reducible assumption) | assumption)
       have q4 : x3_1 < (a0.size : Int) := of_decide_eq_true (by first | (with_reducible assumption) | assumption)
       have hx4 := bt_at a0 x3_1
       replace p4 := eq_true p4
       replace q4 := eq_true q4
       have p6 : 0 ≤ (x3_1 : Int) := of_decide_eq_true (by first | (with_reducible assumption) | assumption)
       have q6 : x3_1 < (a0.size : Int) := of_decide_eq_true (by first | (with_reducible assumption) | assumption)
       have hx6 := bt_at a0 x3_1
       replace p6 := eq_true p6
       replace q6 := eq_true q6
       go_wp2
       go_roundg k1
       case measure => have := HK1.out; omega
       case rel => exact ⟨(wrap64 (x3_1 + 1)), (by first | rfl | (simp; done) | (simp [*]; done)), H', ⟨by have := HK1.out; omega⟩, by repeat (first | exact Drawn0.refl _ | apply Drawn0.step)⟩
      ·rw [if_neg c7] at H
       have c7b0 : ((bt a0 x3_1) == 10) = false := beq_eq_false_iff_ne.mpr c7
       have c7b1 : ((bt a0 x3_1) != 10) = true := bne_iff_ne.mpr c7
       by_cases c9 : (bt a0 x3_1) = 32
       ·rw [if_pos c9] at H
        have c9b0 : ((bt a0 x3_1) == 32) = true := beq_iff_eq.mpr c9
        have c9b1 : ((bt a0 x3_1) != 32) = false := bne_eq_false_iff_eq.mpr c9
        clear c9
        have H' := Aside0.mk H
        clear H
        have p4 : 0 ≤ (x3_1 : Int) := of_decide_eq_true (by first | (with_reducible assumption) | assumption)
        have q4 : x3_1 < (a0.size : Int) := of_decide_eq_true (by first | (with_reducible assumption) | assumption)
        have hx4 := bt_at a0 x3_1
        replace p4 := eq_true p4
        replace q4 := eq_true q4
        have p6 : 0 ≤ (x3_1 : Int) := of_decide_eq_true (by first | (with_reducible assumption) | assumption)
        have q6 : x3_1 < (a0.size : Int) := of_decide_eq_true (by first | (with_reducible assumption) | assumption)
        have hx6 := bt_at a0 x3_1
        replace p6 := eq_true p6
        replace q6 := eq_true q6
        have p8 : 0 ≤ (x3_1 : Int) := of_decide_eq_true (by first | (with_reducible assumption) | assumption)
        have q8 : x3_1 < (a0.size : Int) := of_decide_eq_true (by first | (with_reducible assumption) | assumption)
        have hx8 := bt_at a0 x3_1
        replace p8 := eq_true p8
        replace q8 := eq_true q8
        go_wp2
        go_roundg k1
        case measure => have := HK1.out; omega
        case rel => exact ⟨(wrap64 (x3_1 + 1)), (by first | rfl | (simp; done) | (simp [*]; done)), H', ⟨by have := HK1.out; omega⟩, by repeat (first | exact Drawn0.refl _ | apply Drawn0.step)⟩
       ·rw [if_neg c9] at H
        have c9b0 : ((bt a0 x3_1) == 32) = false := beq_eq_false_iff_ne.mpr c9
        have c9b1 : ((bt a0 x3_1) != 32) = true := bne_iff_ne.mpr c9
        obtain rfl := Option.some.inj H
        have p4 : 0 ≤ (x3_1 : Int) := of_decide_eq_true (by first | (with_reducible assumption) | assumption)
        have q4 : x3_1 < (a0.size : Int) := of_decide_eq_true (by first | (with_reducible assumption) | assumption)
        have hx4 := bt_at a0 x3_1
        replace p4 := eq_true p4
        replace q4 := eq_true q4
        have p6 : 0 ≤ (x3_1 : Int) := of_decide_eq_true (by first | (with_reducible assumption) | assumption)
        have q6 : x3_1 < (a0.size : Int) := of_decide_eq_true (by first | (with_reducible assumption) | assumption)
        have hx6 := bt_at a0 x3_1
        replace p6 := eq_true p6
        replace q6 := eq_true q6
        have p8 : 0 ≤ (x3_1 : Int) := of_decide_eq_true (by first | (with_reducible assumption) | assumption)
        have q8 : x3_1 < (a0.size : Int) := of_decide_eq_true (by first | (with_reducible assumption) | assumption)
        have hx8 := bt_at a0 x3_1
        replace p8 := eq_true p8
        replace q8 := eq_true q8
        go_wp2
        go_ret
        exact ⟨by first | rfl | (simp; done) | (simp [*]; done), by repeat (first | exact Drawn0.refl _ | apply Drawn0.step)⟩
    ·rw [if_neg c3] at H
     exact absurd H (by simp)
   ·rw [if_neg c2] at H
    have c2b0 : decide (x3_1 < (a0.size : Int)) = false := decide_eq_false c2
    clear c2
    obtain rfl := Option.some.inj H
    go_wp2
    go_ret
    exact ⟨by first | rfl | (simp; done) | (simp [*]; done), by repeat (first | exact Drawn0.refl _ | apply Drawn0.step)⟩
end Go.Proofs.YtglmdfddgmkmaaaDoor.Q
end
section
namespace Go.Proofs.YtglmdfddgmkmaaaDoor.Q
open Go.RowKit Go.Proofs.YtglmdfddgmkmaaaDoorW.PrintWords Go.Proofs.YtglmdfddgmkmaaaDoorW.PrintLast Go.Proofs.YtglmdfddgmkmaaaDoorW.PrintMore
attribute [local go_sem] max2_int min2_int max_two min_two max_three min_three max_four min_four
set_option linter.unusedVariables false
set_option linter.unusedSimpArgs false
mutual
def jobshelllaw05_ArithParens.j0 : Nat → ByteArray → Bool → Option (Bool)
 | 0, _, _ => none
 | k + 1, x0, x15 => if x15 = true then ((jobshelllaw05_awake.f k).bind fun t318 => (some t318)) else ((arith_Parse.f k x0).bind fun bt319 => (if 1 + x0.size ≤ 9223372036854775807 then (if ((⟨#[40]⟩ : ByteArray) ++ x0).size + 1 ≤ 9223372036854775807 then ((arith_Parse.f k (((⟨#[40]⟩ : ByteArray) ++ x0) ++ (⟨#[41]⟩ : ByteArray))).bind fun bt328 => (if bt319.2.2.2.2.2 = 0 then (jobshelllaw05_ArithParens.j1 k x0 bt319.2.2.2.2.1 bt319.2.2.2.2.2 bt328.2.2.2.2.1 bt328.2.2.2.2.2 true bt319.1 bt319.2.1 bt319.2.2.1 bt319.2.2.2.1 bt328.1 bt328.2.1 bt328.2.2.1 bt328.2.2.2.1) else (jobshelllaw05_ArithParens.j1 k x0 bt319.2.2.2.2.1 bt319.2.2.2.2.2 bt328.2.2.2.2.1 bt328.2.2.2.2.2 (bt319.2.2.2.2.2 == 5) bt319.1 bt319.2.1 bt319.2.2.1 bt319.2.2.2.1 bt328.1 bt328.2.1 bt328.2.2.1 bt328.2.2.2.1))) else (none)) else (none)))
def jobshelllaw05_ArithParens.j1 : Nat → ByteArray → Int → Int → Int → Int → Bool → Int → Int → ByteArray → List (S26) → Int → Int → ByteArray → List (S26) → Option (Bool)
 | 0, _, _, _, _, _, _, _, _, _, _, _, _, _, _ => none
 | k + 1, x0, x4, x5, x7, x8, x36, x328000, x328001, x328002, x328003, x337000, x337001, x337002, x337003 => if x36 = true then (if x8 = x5 then (if x7 = 0 then ((jobshellref05_Same.f k x328000 x328001 x328002 x328003 x337000 x337001 x337002 x337003).bind fun t337 => (if t337 = true then ((jobshelllaw05_awake.f k).bind fun t338 => (some t338)) else (some false))) else (some false)) else (some false)) else (if x4 < 0 then (jobshelllaw05_ArithParens.j2 k x0 x4 x5 x7 x8 true) else (jobshelllaw05_ArithParens.j2 k x0 x4 x5 x7 x8 (decide (x4 > (x0.size : Int)))))
def jobshelllaw05_ArithParens.j2 : Nat → ByteArray → Int → Int → Int → Int → Bool → Option (Bool)
 | 0, _, _, _, _, _, _ => none
 | k + 1, x0, x4, x5, x7, x8, x59 => if x59 = true then (some false) else (if x4 = (x0.size : Int) then (if x8 = 6 then (if x7 > x4 then ((jobshelllaw05_awake.f k).bind fun t339 => (some t339)) else (some false)) else (some false)) else (if 0 ≤ x4 then (if x4 < (x0.size : Int) then (if (bt x0 x4) = 41 then ((jobshelllaw05_awake.f k).bind fun t340 => (some t340)) else (if x7 = (wrap64 (x4 + 1)) then (if x8 = x5 then ((jobshelllaw05_awake.f k).bind fun t341 => (some t341)) else (some false)) else (some false))) else (none)) else (none)))
end
def jobshelllaw05_ArithParens.f (k : Nat) (a0 : ByteArray) : Option (Bool) := if (a0.size : Int) > 120 then (jobshelllaw05_ArithParens.j0 k a0 true) else ((jobshelllaw05_blank.f k a0).bind fun t317 => (jobshelllaw05_ArithParens.j0 k a0 t317))
set_option maxHeartbeats 8000000 in
set_option maxRecDepth 100000 in
theorem jobshelllaw05_ArithParens.calls (k : Nat) (a0 : ByteArray) (r : Bool) (w : World) (h : jobshelllaw05_ArithParens.f k a0 = some r) (hT : Laid w := by first | assumption | exact HT.out | exact Laid.below HT.out (by repeat (first | (with_reducible first | exact HB.out | apply below_alloc | apply pw_below_drewN | apply below_drew1 | refine below_set ?_ (Aside0.out (by assumption))) | exact HB.out))) :
 Calls Tryd.prog 9 #[.string a0] w fun e w' => e = .returned (.bool r) ∧ Below w.heap.size w w' := by
 have hu26 := Tryd.underlying26
 have HB := Aside0.mk (Below.refl w.heap.size w)
 have HT : Aside0 (Laid w) := Aside0.mk hT
 clear hT
 have H : (if (a0.size : Int) > 120 then (jobshelllaw05_ArithParens.j0 k a0 true) else ((jobshelllaw05_blank.f k a0).bind fun t317 => (jobshelllaw05_ArithParens.j0 k a0 t317))) = some r := h
 clear h
 have HC2 := Aside0.mk H
 clear H
 go_enter Tryd.func9, Tryd.ntmps9
 go_upto_region 1 with (fail)
 go_cut [15] (fun v15 wc => ∃ (kq : Nat) (x15_1 : Bool), v15 = .bool x15_1 ∧ Aside0 (jobshelllaw05_ArithParens.j0 kq a0 x15_1 = some r) ∧ Aside0 (kq ≤ k) ∧ Aside0 (Below w.heap.size w wc))
 case first =>
  have H := HC2.out
  clear HC2
  by_cases c3 : (a0.size : Int) > 120
  ·rw [if_pos c3] at H
   have c3b0 : decide (120 < (a0.size : Int)) = true := decide_eq_true c3
   have c3b1 : decide (120 < a0.size) = true := decide_eq_true (by omega)
   clear c3
   (first | rw [c3b0] | (simp only [i64_w, i32_w]; rw [c3b0]) | skip)
   have H' := Aside0.mk H
   clear H
   go_wp2
   go_meet
   case rel => exact ⟨_, (true), (by first | rfl | (simp; done) | (simp [*]; done)), H', ⟨by first | omega | exact Nat.le_refl _⟩, ⟨by repeat (first | (with_reducible first | exact HB.out | apply below_alloc | apply pw_below_drewN | apply below_drew1) | exact HB.out)⟩⟩
  ·rw [if_neg c3] at H
   have c3b0 : decide (120 < (a0.size : Int)) = false := decide_eq_false c3
   have c3b1 : decide (120 < a0.size) = false := decide_eq_false (by omega)
   clear c3
   (first | rw [c3b0] | (simp only [i64_w, i32_w]; rw [c3b0]) | skip)
   replace H := Option.bind_eq_some_iff.mp H
   obtain ⟨t317, A40, H⟩ := H
   replace H : (jobshelllaw05_ArithParens.j0 k a0 t317) = some r := H
   have A4 := Aside0.mk A40
   clear A40
   have H' := Aside0.mk H
   clear H
   go_wp2_with (first | (go_at_call 29; (with_reducible refine (jobshelllaw05_blank.calls k a0 t317 _ A4.out).mono ?_); rintro e w' ⟨rfl, ⟨nd, rfl⟩⟩))
   go_meet
   case rel => exact ⟨_, (t317), (by first | rfl | (simp; done) | (simp [*]; done)), H', ⟨by first | omega | exact Nat.le_refl _⟩, ⟨by repeat (first | (with_reducible first | exact HB.out | apply below_alloc | apply pw_below_drewN | apply below_drew1) | exact HB.out)⟩⟩
 case rest =>
  clear HC2
  try clear p2
  try clear c3
  try clear c3b0
  try clear c3b1
  obtain ⟨kq, x15_1, rfl, HA, HJ1, HB⟩ := hcut
  cases kq with
  | zero => exact absurd HA.out (by simp [jobshelllaw05_ArithParens.j0])
  | succ kj1 =>
   have H := HA.out
   clear HA
   simp only [jobshelllaw05_ArithParens.j0] at H
   by_cases c5 : x15_1 = true
   ·subst c5
    have H1 : ((jobshelllaw05_awake.f kj1).bind fun t318 => (some t318)) = some r := by rw [if_pos rfl] at H; exact H
    clear H
    have H := H1
    clear H1
    replace H := Option.bind_eq_some_iff.mp H
    obtain ⟨t318, A60, H⟩ := H
    replace H : (some t318) = some r := H
    have A6 := Aside0.mk A60
    clear A60
    obtain rfl := Option.some.inj H
    go_wp2_with (first | ((with_reducible refine gate_callee (f := 17) rfl ?_); refine goesL_ (some 16) rfl rfl Tryd.func17 (by kernel_rfl) rfl #[] rfl (by (try simp only [List.map_toArray, List.map_cons, List.map_nil]); first | done | rfl | (simp only [List.length_drop, List.length_take]; rfl)) ?_; (with_reducible refine (jobshelllaw05_awake.calls kj1  t318 _ A6.out).mono ?_); rintro e w7 ⟨rfl, hb⟩; refine ⟨_, rfl, ?_⟩; have n0_ := Aside0.mk (below_step (by repeat (first | (with_reducible first | exact HB.out | apply below_alloc | apply pw_below_drewN | apply below_drew1) | exact HB.out)) hb); clear HB; have HB := n0_; clear n0_; (try clear hb); (try clear hb2); (try clear hk); (try clear hi)))
    go_ret
    exact ⟨by first | rfl | (simp [errW_none, errW_some] <;> rfl) | (simp [*, errW_none, errW_some] <;> rfl), by repeat (first | (with_reducible first | exact HB.out | apply below_alloc | apply pw_below_drewN | apply below_drew1) | exact HB.out)⟩
   ·replace c5 := Bool.eq_false_iff.mpr c5
    subst c5
    have H1 : ((arith_Parse.f kj1 a0).bind fun bt319 => (if 1 + a0.size ≤ 9223372036854775807 then (if ((⟨#[40]⟩ : ByteArray) ++ a0).size + 1 ≤ 9223372036854775807 then ((arith_Parse.f kj1 (((⟨#[40]⟩ : ByteArray) ++ a0) ++ (⟨#[41]⟩ : ByteArray))).bind fun bt328 => (if bt319.2.2.2.2.2 = 0 then (jobshelllaw05_ArithParens.j1 kj1 a0 bt319.2.2.2.2.1 bt319.2.2.2.2.2 bt328.2.2.2.2.1 bt328.2.2.2.2.2 true bt319.1 bt319.2.1 bt319.2.2.1 bt319.2.2.2.1 bt328.1 bt328.2.1 bt328.2.2.1 bt328.2.2.2.1) else (jobshelllaw05_ArithParens.j1 kj1 a0 bt319.2.2.2.2.1 bt319.2.2.2.2.2 bt328.2.2.2.2.1 bt328.2.2.2.2.2 (bt319.2.2.2.2.2 == 5) bt319.1 bt319.2.1 bt319.2.2.1 bt319.2.2.2.1 bt328.1 bt328.2.1 bt328.2.2.1 bt328.2.2.2.1))) else (none)) else (none))) = some r := by rw [if_neg (show ¬ (false = true) by decide)] at H; exact H
    clear H
    have H := H1
    clear H1
    replace H := Option.bind_eq_some_iff.mp H
    obtain ⟨⟨t319, t320, t321, t322, t325, t326⟩, A80, H⟩ := H
    replace H : (if 1 + a0.size ≤ 9223372036854775807 then (if ((⟨#[40]⟩ : ByteArray) ++ a0).size + 1 ≤ 9223372036854775807 then ((arith_Parse.f kj1 (((⟨#[40]⟩ : ByteArray) ++ a0) ++ (⟨#[41]⟩ : ByteArray))).bind fun bt328 => (if t326 = 0 then (jobshelllaw05_ArithParens.j1 kj1 a0 t325 t326 bt328.2.2.2.2.1 bt328.2.2.2.2.2 true t319 t320 t321 t322 bt328.1 bt328.2.1 bt328.2.2.1 bt328.2.2.2.1) else (jobshelllaw05_ArithParens.j1 kj1 a0 t325 t326 bt328.2.2.2.2.1 bt328.2.2.2.2.2 (t326 == 5) t319 t320 t321 t322 bt328.1 bt328.2.1 bt328.2.2.1 bt328.2.2.2.1))) else (none)) else (none)) = some r := H
    have A8 := Aside0.mk A80
    clear A80
    by_cases c9 : 1 + a0.size ≤ 9223372036854775807
    ·rw [if_pos c9] at H
     have c9b0 := eq_true c9
     have c9b1 : decide (1 + a0.size ≤ 9223372036854775807) = true := decide_eq_true c9
     try have c9b2 : (9223372036854775807 < 1 + a0.size) = False := eq_false (Nat.not_lt.2 c9)
     by_cases c10 : ((⟨#[40]⟩ : ByteArray) ++ a0).size + 1 ≤ 9223372036854775807
     ·rw [if_pos c10] at H
      have c10b0 := eq_true c10
      have c10b1 : decide (((⟨#[40]⟩ : ByteArray) ++ a0).size + 1 ≤ 9223372036854775807) = true := decide_eq_true c10
      try have c10b2 : (9223372036854775807 < ((⟨#[40]⟩ : ByteArray) ++ a0).size + 1) = False := eq_false (Nat.not_lt.2 c10)
      try have c10b3 := c10b2
      try simp only [ByteArray.size_append, show (⟨#[40]⟩ : ByteArray).size = 1 from rfl, Nat.zero_add, Nat.add_zero] at c10b3
      replace H := Option.bind_eq_some_iff.mp H
      obtain ⟨⟨t328, t329, t330, t331, t334, t335⟩, A110, H⟩ := H
      replace H : (if t326 = 0 then (jobshelllaw05_ArithParens.j1 kj1 a0 t325 t326 t334 t335 true t319 t320 t321 t322 t328 t329 t330 t331) else (jobshelllaw05_ArithParens.j1 kj1 a0 t325 t326 t334 t335 (t326 == 5) t319 t320 t321 t322 t328 t329 t330 t331)) = some r := H
      have A11 := Aside0.mk A110
      clear A110
      have HC12 := Aside0.mk H
      clear H
      go_upto_region 5 with (first | ((with_reducible refine gate_callee (f := 18) rfl ?_); refine goesL_ (some 19) rfl rfl Tryd.func18 (by kernel_rfl) rfl #[.string a0] rfl (by (try simp only [List.map_toArray, List.map_cons, List.map_nil]); first | done | rfl | (simp only [List.length_drop, List.length_take]; rfl)) ?_; (with_reducible refine (arith_Parse.calls kj1 a0 t319 t320 t321 t322 t325 t326 _ A8.out).mono ?_); rintro e w13 ⟨v323, rfl, ho0, hb⟩; refine ⟨_, rfl, ?_⟩; have n0_ := Aside0.mk (Kd.R_lower ho0 (below_size (by repeat (first | (with_reducible first | exact HB.out | apply below_alloc | apply pw_below_drewN | apply below_drew1) | exact HB.out)))); have n1_ := Aside0.mk (below_step (by repeat (first | (with_reducible first | exact HB.out | apply below_alloc | apply pw_below_drewN | apply below_drew1) | exact HB.out)) hb); clear HB; have HO324 := n0_; have HB := n1_; clear n0_ n1_; (try clear hb); (try clear hb2); (try clear hk); (try clear hi); (try clear ho0)) | ((with_reducible refine gate_dst (N := 3) rfl ?_); (try (refine gate_guard (by rfl) ?_; dsimp only)); refine box_event ?hg (N := 3) ?hd (cs := #[.int .i64 0, .int .i64 0, .string (⟨#[]⟩ : ByteArray), .slice none 0 0]) (t := 26) ?hr ?_; (case hd => rfl); (case hg => rfl); (case hr => first | (go_simp; done) | (go_simp; rfl)); intro gb327 hg w14 hbox hb; have n0_ := Aside0.mk (Kd.R_below (Kd.R_elderB (by (with_reducible repeat (first | apply Kd.R_alloc | apply Kd.R_drewN | apply Kd.R_drew)); exact HO324.out) gb327 (Nat.le_of_eq hg.symm)) hb); have n1_ := Aside0.mk (below_step (by repeat (first | (with_reducible first | exact HB.out | apply below_alloc | apply pw_below_drewN | apply below_drew1) | exact HB.out)) hb); have n2_ := Aside0.mk (hbox); have n3_ := Aside0.mk ((by rw [hg]; exact (below_size (by repeat (first | (with_reducible first | exact HB.out | apply below_alloc | apply pw_below_drewN | apply below_drew1) | exact HB.out))) : w.heap.size ≤ gb327)); have n4_ := Aside0.mk ((by rw [hg]; exact (below_size (by repeat (first | (with_reducible first | exact HB.out | apply below_alloc | apply pw_below_drewN | apply below_drew1) | exact HB.out))) : w.heap.size ≤ gb327)); clear HO324; clear HB; have HO324 := n0_; have HB := n1_; have BK327 := n2_; have GW327 := n3_; have GE327 := n4_; clear n0_ n1_ n2_ n3_ n4_; clear hb hbox hg; have hcz15_0 : w14.cell? ⟨gb327, 0, none⟩ = some (.int .i64 0) := (blk_cell BK327.out 0).trans rfl; have hcz15_1 : w14.cell? ⟨gb327, 1, none⟩ = some (.int .i64 0) := (blk_cell BK327.out 1).trans rfl; have hcz15_2 : w14.cell? ⟨gb327, 2, none⟩ = some (.string (⟨#[]⟩ : ByteArray)) := (blk_cell BK327.out 2).trans rfl; have hcz15_3 : w14.cell? ⟨gb327, 3, none⟩ = some (.slice none 0 0) := (blk_cell BK327.out 3).trans rfl; have hfz15_0 := blk_frozen BK327.out 0; have hfz15_1 := blk_frozen BK327.out 1; have hfz15_2 := blk_frozen BK327.out 2; have hfz15_3 := blk_frozen BK327.out 3; obtain ⟨Ao16, co16, eo16⟩ := Kd.R_slice HO324.out; subst eo16) | ((with_reducible refine gate_callee (f := 18) rfl ?_); refine goesL_ (some 27) rfl rfl Tryd.func18 (by kernel_rfl) rfl #[.string (((⟨#[40]⟩ : ByteArray) ++ a0) ++ (⟨#[41]⟩ : ByteArray))] rfl (by (try simp only [List.map_toArray, List.map_cons, List.map_nil]); first | done | rfl | (simp only [List.length_drop, List.length_take]; rfl)) ?_; (with_reducible refine (arith_Parse.calls kj1 (((⟨#[40]⟩ : ByteArray) ++ a0) ++ (⟨#[41]⟩ : ByteArray)) t328 t329 t330 t331 t334 t335 _ A11.out).mono ?_); rintro e w17 ⟨v332, rfl, ho0, hb⟩; refine ⟨_, rfl, ?_⟩; have n0_ := Aside0.mk (Kd.R_elder' (by (with_reducible repeat (first | apply Kd.R_alloc | apply Kd.R_drewN | apply Kd.R_drew)); exact (Kd.R_mono (Kd.R_far (p := ⟨gb327, 3, none⟩) (Kd.R_far (p := ⟨gb327, 2, none⟩) (Kd.R_far (p := ⟨gb327, 1, none⟩) (Kd.R_far (p := ⟨gb327, 0, none⟩) (Kd.R_mono HO324.out (fun k_ hk => (⟨hk, hk.2⟩ : _ ∧ k_ ≠ gb327))) (fun _ hk => hk.2) (.int .i64 t319)) (fun _ hk => hk.2) (.int .i64 t320)) (fun _ hk => hk.2) (.string t321)) (fun _ hk => hk.2) (.slice Ao16 t322.length co16)) (fun _ h_ => h_.1))) (Kd.R_base ho0) hb); have n1_ := Aside0.mk (Kd.R_lower (Kd.R_newB (Kd.R_new' ho0 (Kd.R_lt (by (with_reducible repeat (first | apply Kd.R_alloc | apply Kd.R_drewN | apply Kd.R_drew)); exact (Kd.R_mono (Kd.R_far (p := ⟨gb327, 3, none⟩) (Kd.R_far (p := ⟨gb327, 2, none⟩) (Kd.R_far (p := ⟨gb327, 1, none⟩) (Kd.R_far (p := ⟨gb327, 0, none⟩) (Kd.R_mono HO324.out (fun k_ hk => (⟨hk, hk.2⟩ : _ ∧ k_ ≠ gb327))) (fun _ hk => hk.2) (.int .i64 t319)) (fun _ hk => hk.2) (.int .i64 t320)) (fun _ hk => hk.2) (.string t321)) (fun _ hk => hk.2) (.slice Ao16 t322.length co16)) (fun _ h_ => h_.1))))) (g := gb327) (o := .cells #[.int .i64 t319, .int .i64 t320, .string t321, .slice Ao16 t322.length co16] 26 (0, 0)) (by (with_reducible repeat (first | refine blk_drewN ?_ _ | refine blk_drew ?_ | refine blk_alloc ?_ _)); refine blk_put (cs := #[.int .i64 t319, .int .i64 t320, .string t321, .slice none 0 0]) ?_ 3 _ rfl; (with_reducible repeat (first | refine blk_drewN ?_ _ | refine blk_drew ?_ | refine blk_alloc ?_ _)); refine blk_put (cs := #[.int .i64 t319, .int .i64 t320, .string (⟨#[]⟩ : ByteArray), .slice none 0 0]) ?_ 2 _ rfl; (with_reducible repeat (first | refine blk_drewN ?_ _ | refine blk_drew ?_ | refine blk_alloc ?_ _)); refine blk_put (cs := #[.int .i64 t319, .int .i64 0, .string (⟨#[]⟩ : ByteArray), .slice none 0 0]) ?_ 1 _ rfl; (with_reducible repeat (first | refine blk_drewN ?_ _ | refine blk_drew ?_ | refine blk_alloc ?_ _)); refine blk_put (cs := #[.int .i64 0, .int .i64 0, .string (⟨#[]⟩ : ByteArray), .slice none 0 0]) ?_ 0 _ rfl; (with_reducible repeat (first | refine blk_drewN ?_ _ | refine blk_drew ?_ | refine blk_alloc ?_ _)); exact BK327.out)) (below_size (by repeat (first | (with_reducible first | exact HB.out | apply below_alloc | apply pw_below_drewN | apply below_drew1 | refine below_set ?_ GE327.out) | exact HB.out)))); have n2_ := Aside0.mk (blk_below (g := gb327) (o := .cells #[.int .i64 t319, .int .i64 t320, .string t321, .slice Ao16 t322.length co16] 26 (0, 0)) (by (with_reducible repeat (first | refine blk_drewN ?_ _ | refine blk_drew ?_ | refine blk_alloc ?_ _)); refine blk_put (cs := #[.int .i64 t319, .int .i64 t320, .string t321, .slice none 0 0]) ?_ 3 _ rfl; (with_reducible repeat (first | refine blk_drewN ?_ _ | refine blk_drew ?_ | refine blk_alloc ?_ _)); refine blk_put (cs := #[.int .i64 t319, .int .i64 t320, .string (⟨#[]⟩ : ByteArray), .slice none 0 0]) ?_ 2 _ rfl; (with_reducible repeat (first | refine blk_drewN ?_ _ | refine blk_drew ?_ | refine blk_alloc ?_ _)); refine blk_put (cs := #[.int .i64 t319, .int .i64 0, .string (⟨#[]⟩ : ByteArray), .slice none 0 0]) ?_ 1 _ rfl; (with_reducible repeat (first | refine blk_drewN ?_ _ | refine blk_drew ?_ | refine blk_alloc ?_ _)); refine blk_put (cs := #[.int .i64 0, .int .i64 0, .string (⟨#[]⟩ : ByteArray), .slice none 0 0]) ?_ 0 _ rfl; (with_reducible repeat (first | refine blk_drewN ?_ _ | refine blk_drew ?_ | refine blk_alloc ?_ _)); exact BK327.out) hb); have n3_ := Aside0.mk (below_step (by repeat (first | (with_reducible first | exact HB.out | apply below_alloc | apply pw_below_drewN | apply below_drew1 | refine below_set ?_ GE327.out) | exact HB.out)) hb); clear HO324; clear BK327; clear HB; have HO324 := n0_; have HO333 := n1_; have BK327 := n2_; have HB := n3_; clear n0_ n1_ n2_ n3_; (try clear hb); (try clear hb2); (try clear hk); (try clear hi); (try clear ho0)) | ((with_reducible refine gate_dst (N := 6) rfl ?_); (try (refine gate_guard (by rfl) ?_; dsimp only)); refine box_event ?hg (N := 6) ?hd (cs := #[.int .i64 0, .int .i64 0, .string (⟨#[]⟩ : ByteArray), .slice none 0 0]) (t := 26) ?hr ?_; (case hd => rfl); (case hg => rfl); (case hr => first | (go_simp; done) | (go_simp; rfl)); intro gb336 hg w18 hbox hb; have n0_ := Aside0.mk (Kd.R_below (Kd.R_elderB (by (with_reducible repeat (first | apply Kd.R_alloc | apply Kd.R_drewN | apply Kd.R_drew)); exact HO324.out) gb336 (Nat.le_of_eq hg.symm)) hb); have n1_ := Aside0.mk (Kd.R_below (Kd.R_elderB (by (with_reducible repeat (first | apply Kd.R_alloc | apply Kd.R_drewN | apply Kd.R_drew)); exact HO333.out) gb336 (Nat.le_of_eq hg.symm)) hb); have n2_ := Aside0.mk (blk_below (g := gb327) (o := .cells #[.int .i64 t319, .int .i64 t320, .string t321, .slice Ao16 t322.length co16] 26 (0, 0)) (by (with_reducible repeat (first | refine blk_drewN ?_ _ | refine blk_drew ?_ | refine blk_alloc ?_ _)); exact BK327.out) hb); have n3_ := Aside0.mk (below_step (by repeat (first | (with_reducible first | exact HB.out | apply below_alloc | apply pw_below_drewN | apply below_drew1 | refine below_set ?_ GE327.out) | exact HB.out)) hb); have n4_ := Aside0.mk (hbox); have n5_ := Aside0.mk ((by rw [hg]; exact (below_size (by repeat (first | (with_reducible first | exact HB.out | apply below_alloc | apply pw_below_drewN | apply below_drew1 | refine below_set ?_ GE327.out) | exact HB.out))) : w.heap.size ≤ gb336)); have n6_ := Aside0.mk ((by rw [hg]; exact (below_size (by repeat (first | (with_reducible first | exact HB.out | apply below_alloc | apply pw_below_drewN | apply below_drew1 | refine below_set ?_ GE327.out) | exact HB.out))) : w.heap.size ≤ gb336)); have n7_ := Aside0.mk ((by rw [hg]; exact Nat.ne_of_lt (blk_lt (g := gb327) (o := .cells #[.int .i64 t319, .int .i64 t320, .string t321, .slice Ao16 t322.length co16] 26 (0, 0)) (by (with_reducible repeat (first | refine blk_drewN ?_ _ | refine blk_drew ?_ | refine blk_alloc ?_ _)); exact BK327.out)) : gb327 ≠ gb336)); have n8_ := Aside0.mk ((by rw [hg]; exact Nat.ne_of_gt (blk_lt (g := gb327) (o := .cells #[.int .i64 t319, .int .i64 t320, .string t321, .slice Ao16 t322.length co16] 26 (0, 0)) (by (with_reducible repeat (first | refine blk_drewN ?_ _ | refine blk_drew ?_ | refine blk_alloc ?_ _)); exact BK327.out)) : gb336 ≠ gb327)); clear HO324; clear HO333; clear BK327; clear HB; have HO324 := n0_; have HO333 := n1_; have BK327 := n2_; have HB := n3_; have BK336 := n4_; have GW336 := n5_; have GE336 := n6_; have NB327_336 := n7_; have NB336_327 := n8_; clear n0_ n1_ n2_ n3_ n4_ n5_ n6_ n7_ n8_; clear hb hbox hg; have hnb19 := NB336_327.out; have hnc19 := NB327_336.out; have hcz20_0 : w18.cell? ⟨gb336, 0, none⟩ = some (.int .i64 0) := (blk_cell BK336.out 0).trans rfl; have hcz20_1 : w18.cell? ⟨gb336, 1, none⟩ = some (.int .i64 0) := (blk_cell BK336.out 1).trans rfl; have hcz20_2 : w18.cell? ⟨gb336, 2, none⟩ = some (.string (⟨#[]⟩ : ByteArray)) := (blk_cell BK336.out 2).trans rfl; have hcz20_3 : w18.cell? ⟨gb336, 3, none⟩ = some (.slice none 0 0) := (blk_cell BK336.out 3).trans rfl; have hfz20_0 := blk_frozen BK336.out 0; have hfz20_1 := blk_frozen BK336.out 1; have hfz20_2 := blk_frozen BK336.out 2; have hfz20_3 := blk_frozen BK336.out 3; obtain ⟨Ao21, co21, eo21⟩ := Kd.R_slice HO333.out; subst eo21))
      (try simp only [Act.put, List.setIfInBounds_toArray, List.set_cons_zero, List.set_cons_succ])
      go_cut [36] (fun v36 wc => ∃ (kq : Nat) (x36_11 : Bool), v36 = .bool x36_11 ∧ Aside0 (jobshelllaw05_ArithParens.j1 kq a0 t325 t326 t334 t335 x36_11 t319 t320 t321 t322 t328 t329 t330 t331 = some r) ∧ Aside0 (kq ≤ kj1) ∧ Aside0 (Kd.R k26 26 wc w.heap.size (fun k_ => some k_ ≠ ((.slice Ao21 t331.length co21) : Value).ownBlock ∧ k_ ≠ gb327 ∧ k_ ≠ gb336) (.slice Ao16 t322.length co16) t322) ∧ Aside0 (Kd.R k26 26 wc w.heap.size (fun k_ => some k_ ≠ ((.slice Ao16 t322.length co16) : Value).ownBlock ∧ k_ ≠ gb327 ∧ k_ ≠ gb336) (.slice Ao21 t331.length co21) t331) ∧ Aside0 (wc.heap[gb327]? = some (.cells #[.int .i64 t319, .int .i64 t320, .string t321, (.slice Ao16 t322.length co16)] 26 (0, 0))) ∧ Aside0 (wc.heap[gb336]? = some (.cells #[.int .i64 t328, .int .i64 t329, .string t330, (.slice Ao21 t331.length co21)] 26 (0, 0))) ∧ Aside0 (Below w.heap.size w wc))
      case first =>
       have H := HC12.out
       clear HC12
       by_cases c22 : t326 = 0
       ·rw [if_pos c22] at H
        have c22b0 : (t326 == 0) = true := beq_iff_eq.mpr c22
        have c22b1 : (t326 != 0) = false := bne_eq_false_iff_eq.mpr c22
        clear c22
        (first | rw [c22b0] | (simp only [i64_w, i32_w]; rw [c22b0]) | skip)
        have H' := Aside0.mk H
        clear H
        go_wp2
        go_meet
        case rel => exact ⟨_, (true), (by first | rfl | (simp; done) | (simp [*]; done)), H', ⟨by have := HJ1.out; first | omega | exact Nat.le_refl _⟩, ⟨by (with_reducible repeat (first | apply Kd.R_alloc | apply Kd.R_drewN | apply Kd.R_drew)); exact Kd.R_mono (Kd.R_far (p := ⟨gb336, 3, none⟩) (Kd.R_far (p := ⟨gb336, 2, none⟩) (Kd.R_far (p := ⟨gb336, 1, none⟩) (Kd.R_far (p := ⟨gb336, 0, none⟩) (Kd.R_mono HO324.out (fun k_ hk => (⟨hk, hk.2⟩ : _ ∧ k_ ≠ gb336))) (fun _ hk => hk.2) (.int .i64 t328)) (fun _ hk => hk.2) (.int .i64 t329)) (fun _ hk => hk.2) (.string t330)) (fun _ hk => hk.2) (.slice Ao21 t331.length co21)) (fun _ hk => ⟨hk.1.1.2, ⟨hk.1.1.1.2, hk.1.2⟩⟩)⟩, ⟨by (with_reducible repeat (first | apply Kd.R_alloc | apply Kd.R_drewN | apply Kd.R_drew)); exact Kd.R_mono (Kd.R_far (p := ⟨gb336, 3, none⟩) (Kd.R_far (p := ⟨gb336, 2, none⟩) (Kd.R_far (p := ⟨gb336, 1, none⟩) (Kd.R_far (p := ⟨gb336, 0, none⟩) (Kd.R_mono HO333.out (fun k_ hk => (⟨hk, hk.2⟩ : _ ∧ k_ ≠ gb336))) (fun _ hk => hk.2) (.int .i64 t328)) (fun _ hk => hk.2) (.int .i64 t329)) (fun _ hk => hk.2) (.string t330)) (fun _ hk => hk.2) (.slice Ao21 t331.length co21)) (fun _ hk => ⟨hk.1.1.1.2, ⟨hk.1.1.2, hk.1.2⟩⟩)⟩, ⟨by (with_reducible repeat (first | refine blk_drewN ?_ _ | refine blk_drew ?_ | refine blk_alloc ?_ _)); refine blk_far ?_ NB327_336.out _; (with_reducible repeat (first | refine blk_drewN ?_ _ | refine blk_drew ?_ | refine blk_alloc ?_ _)); refine blk_far ?_ NB327_336.out _; (with_reducible repeat (first | refine blk_drewN ?_ _ | refine blk_drew ?_ | refine blk_alloc ?_ _)); refine blk_far ?_ NB327_336.out _; (with_reducible repeat (first | refine blk_drewN ?_ _ | refine blk_drew ?_ | refine blk_alloc ?_ _)); refine blk_far ?_ NB327_336.out _; (with_reducible repeat (first | refine blk_drewN ?_ _ | refine blk_drew ?_ | refine blk_alloc ?_ _)); exact BK327.out⟩, ⟨by (with_reducible repeat (first | refine blk_drewN ?_ _ | refine blk_drew ?_ | refine blk_alloc ?_ _)); refine blk_put (cs := #[.int .i64 t328, .int .i64 t329, .string t330, .slice none 0 0]) ?_ 3 _ rfl; (with_reducible repeat (first | refine blk_drewN ?_ _ | refine blk_drew ?_ | refine blk_alloc ?_ _)); refine blk_put (cs := #[.int .i64 t328, .int .i64 t329, .string (⟨#[]⟩ : ByteArray), .slice none 0 0]) ?_ 2 _ rfl; (with_reducible repeat (first | refine blk_drewN ?_ _ | refine blk_drew ?_ | refine blk_alloc ?_ _)); refine blk_put (cs := #[.int .i64 t328, .int .i64 0, .string (⟨#[]⟩ : ByteArray), .slice none 0 0]) ?_ 1 _ rfl; (with_reducible repeat (first | refine blk_drewN ?_ _ | refine blk_drew ?_ | refine blk_alloc ?_ _)); refine blk_put (cs := #[.int .i64 0, .int .i64 0, .string (⟨#[]⟩ : ByteArray), .slice none 0 0]) ?_ 0 _ rfl; (with_reducible repeat (first | refine blk_drewN ?_ _ | refine blk_drew ?_ | refine blk_alloc ?_ _)); exact BK336.out⟩, ⟨by repeat (first | (with_reducible first | exact HB.out | apply below_alloc | apply pw_below_drewN | apply below_drew1 | refine below_set ?_ GE327.out | refine below_set ?_ GE336.out) | exact HB.out)⟩⟩
       ·rw [if_neg c22] at H
        have c22b0 : (t326 == 0) = false := beq_eq_false_iff_ne.mpr c22
        have c22b1 : (t326 != 0) = true := bne_iff_ne.mpr c22
        (first | rw [c22b0] | (simp only [i64_w, i32_w]; rw [c22b0]) | skip)
        have H' := Aside0.mk H
        clear H
        go_wp2
        go_meet
        case rel => exact ⟨_, ((t326 == 5)), (by first | rfl | (simp; done) | (simp [*]; done)), H', ⟨by have := HJ1.out; first | omega | exact Nat.le_refl _⟩, ⟨by (with_reducible repeat (first | apply Kd.R_alloc | apply Kd.R_drewN | apply Kd.R_drew)); exact Kd.R_mono (Kd.R_far (p := ⟨gb336, 3, none⟩) (Kd.R_far (p := ⟨gb336, 2, none⟩) (Kd.R_far (p := ⟨gb336, 1, none⟩) (Kd.R_far (p := ⟨gb336, 0, none⟩) (Kd.R_mono HO324.out (fun k_ hk => (⟨hk, hk.2⟩ : _ ∧ k_ ≠ gb336))) (fun _ hk => hk.2) (.int .i64 t328)) (fun _ hk => hk.2) (.int .i64 t329)) (fun _ hk => hk.2) (.string t330)) (fun _ hk => hk.2) (.slice Ao21 t331.length co21)) (fun _ hk => ⟨hk.1.1.2, ⟨hk.1.1.1.2, hk.1.2⟩⟩)⟩, ⟨by (with_reducible repeat (first | apply Kd.R_alloc | apply Kd.R_drewN | apply Kd.R_drew)); exact Kd.R_mono (Kd.R_far (p := ⟨gb336, 3, none⟩) (Kd.R_far (p := ⟨gb336, 2, none⟩) (Kd.R_far (p := ⟨gb336, 1, none⟩) (Kd.R_far (p := ⟨gb336, 0, none⟩) (Kd.R_mono HO333.out (fun k_ hk => (⟨hk, hk.2⟩ : _ ∧ k_ ≠ gb336))) (fun _ hk => hk.2) (.int .i64 t328)) (fun _ hk => hk.2) (.int .i64 t329)) (fun _ hk => hk.2) (.string t330)) (fun _ hk => hk.2) (.slice Ao21 t331.length co21)) (fun _ hk => ⟨hk.1.1.1.2, ⟨hk.1.1.2, hk.1.2⟩⟩)⟩, ⟨by (with_reducible repeat (first | refine blk_drewN ?_ _ | refine blk_drew ?_ | refine blk_alloc ?_ _)); refine blk_far ?_ NB327_336.out _; (with_reducible repeat (first | refine blk_drewN ?_ _ | refine blk_drew ?_ | refine blk_alloc ?_ _)); refine blk_far ?_ NB327_336.out _; (with_reducible repeat (first | refine blk_drewN ?_ _ | refine blk_drew ?_ | refine blk_alloc ?_ _)); refine blk_far ?_ NB327_336.out _; (with_reducible repeat (first | refine blk_drewN ?_ _ | refine blk_drew ?_ | refine blk_alloc ?_ _)); refine blk_far ?_ NB327_336.out _; (with_reducible repeat (first | refine blk_drewN ?_ _ | refine blk_drew ?_ | refine blk_alloc ?_ _)); exact BK327.out⟩, ⟨by (with_reducible repeat (first | refine blk_drewN ?_ _ | refine blk_drew ?_ | refine blk_alloc ?_ _)); refine blk_put (cs := #[.int .i64 t328, .int .i64 t329, .string t330, .slice none 0 0]) ?_ 3 _ rfl; (with_reducible repeat (first | refine blk_drewN ?_ _ | refine blk_drew ?_ | refine blk_alloc ?_ _)); refine blk_put (cs := #[.int .i64 t328, .int .i64 t329, .string (⟨#[]⟩ : ByteArray), .slice none 0 0]) ?_ 2 _ rfl; (with_reducible repeat (first | refine blk_drewN ?_ _ | refine blk_drew ?_ | refine blk_alloc ?_ _)); refine blk_put (cs := #[.int .i64 t328, .int .i64 0, .string (⟨#[]⟩ : ByteArray), .slice none 0 0]) ?_ 1 _ rfl; (with_reducible repeat (first | refine blk_drewN ?_ _ | refine blk_drew ?_ | refine blk_alloc ?_ _)); refine blk_put (cs := #[.int .i64 0, .int .i64 0, .string (⟨#[]⟩ : ByteArray), .slice none 0 0]) ?_ 0 _ rfl; (with_reducible repeat (first | refine blk_drewN ?_ _ | refine blk_drew ?_ | refine blk_alloc ?_ _)); exact BK336.out⟩, ⟨by repeat (first | (with_reducible first | exact HB.out | apply below_alloc | apply pw_below_drewN | apply below_drew1 | refine below_set ?_ GE327.out | refine below_set ?_ GE336.out) | exact HB.out)⟩⟩
      case rest =>
       clear HC12
       try clear c1
       try clear c2
       try clear p2
       try clear c3
       try clear c3b0
       try clear c3b1
       try clear c5
       try clear c9
       try clear c9b0
       try clear c9b1
       try clear c9b2
       try clear c10
       try clear c10b0
       try clear c10b1
       try clear c10b2
       try clear c17
       try clear c18
       try clear c19
       try clear c22
       try clear c22b0
       try clear c22b1
       try clear hcz15_0
       try clear hcz15_1
       try clear hcz15_2
       try clear hcz15_3
       try clear hcz20_0
       try clear hcz20_1
       try clear hcz20_2
       try clear hcz20_3
       try clear hfz15_0
       try clear hfz15_1
       try clear hfz15_2
       try clear hfz15_3
       try clear hfz20_0
       try clear hfz20_1
       try clear hfz20_2
       try clear hfz20_3
       try clear p2
       obtain ⟨kq, x36_11, rfl, HA, HJ11, HO_328003, HO_337003, BK327, BK336, HB⟩ := hcut
       cases kq with
       | zero => exact absurd HA.out (by simp [jobshelllaw05_ArithParens.j1])
       | succ kj11 =>
        have H := HA.out
        clear HA
        simp only [jobshelllaw05_ArithParens.j1] at H
        by_cases c23 : x36_11 = true
        ·subst c23
         have H1 : (if t335 = t326 then (if t334 = 0 then ((jobshellref05_Same.f kj11 t319 t320 t321 t322 t328 t329 t330 t331).bind fun t337 => (if t337 = true then ((jobshelllaw05_awake.f kj11).bind fun t338 => (some t338)) else (some false))) else (some false)) else (some false)) = some r := by rw [if_pos rfl] at H; exact H
         clear H
         have H := H1
         clear H1
         by_cases c24 : t335 = t326
         ·rw [if_pos c24] at H
          have c24b0 : (t335 == t326) = true := beq_iff_eq.mpr c24
          have c24b1 : (t335 != t326) = false := bne_eq_false_iff_eq.mpr c24
          clear c24
          by_cases c25 : t334 = 0
          ·rw [if_pos c25] at H
           have c25b0 : (t334 == 0) = true := beq_iff_eq.mpr c25
           have c25b1 : (t334 != 0) = false := bne_eq_false_iff_eq.mpr c25
           clear c25
           replace H := Option.bind_eq_some_iff.mp H
           obtain ⟨t337, A260, H⟩ := H
           replace H : (if t337 = true then ((jobshelllaw05_awake.f kj11).bind fun t338 => (some t338)) else (some false)) = some r := H
           have A26 := Aside0.mk A260
           clear A260
           by_cases c27 : t337 = true
           ·subst c27
            have H1 : ((jobshelllaw05_awake.f kj11).bind fun t338 => (some t338)) = some r := by rw [if_pos rfl] at H; exact H
            clear H
            have H := H1
            clear H1
            replace H := Option.bind_eq_some_iff.mp H
            obtain ⟨t338, A280, H⟩ := H
            replace H : (some t338) = some r := H
            have A28 := Aside0.mk A280
            clear A280
            obtain rfl := Option.some.inj H
            have hnb29 := NB327_336.out
            have hnc29 := NB336_327.out
            have hcz30_0 : wc.cell? ⟨gb327, 0, none⟩ = some (.int .i64 t319) := (blk_cell BK327.out 0).trans rfl
            have hcz30_1 : wc.cell? ⟨gb327, 1, none⟩ = some (.int .i64 t320) := (blk_cell BK327.out 1).trans rfl
            have hcz30_2 : wc.cell? ⟨gb327, 2, none⟩ = some (.string t321) := (blk_cell BK327.out 2).trans rfl
            have hcz30_3 : wc.cell? ⟨gb327, 3, none⟩ = some (.slice Ao16 t322.length co16) := (blk_cell BK327.out 3).trans rfl
            have hfz30_0 := blk_frozen BK327.out 0
            have hfz30_1 := blk_frozen BK327.out 1
            have hfz30_2 := blk_frozen BK327.out 2
            have hfz30_3 := blk_frozen BK327.out 3
            have hcz31_0 : wc.cell? ⟨gb336, 0, none⟩ = some (.int .i64 t328) := (blk_cell BK336.out 0).trans rfl
            have hcz31_1 : wc.cell? ⟨gb336, 1, none⟩ = some (.int .i64 t329) := (blk_cell BK336.out 1).trans rfl
            have hcz31_2 : wc.cell? ⟨gb336, 2, none⟩ = some (.string t330) := (blk_cell BK336.out 2).trans rfl
            have hcz31_3 : wc.cell? ⟨gb336, 3, none⟩ = some (.slice Ao21 t331.length co21) := (blk_cell BK336.out 3).trans rfl
            have hfz31_0 := blk_frozen BK336.out 0
            have hfz31_1 := blk_frozen BK336.out 1
            have hfz31_2 := blk_frozen BK336.out 2
            have hfz31_3 := blk_frozen BK336.out 3
            go_wp2_with (first | (go_at_call 20; (with_reducible refine (jobshellref05_Same.calls kj11 t319 t320 t321 _ _ t322 t328 t329 t330 _ _ t331 true _ ?side1 ?side2 ?side3 ?side4 A26.out).mono ?_); (case side1 => repeat (first | exact (Kd.R_reads' HO_328003.out).2.2 | (with_reducible refine Kd.C_alloc ?_ _) | (with_reducible refine Kd.C_drewN ?_ _) | (with_reducible refine Kd.C_drew ?_))); (case side2 => exact (Kd.R_reads' HO_328003.out).2.1); (case side3 => repeat (first | exact (Kd.R_reads' HO_337003.out).2.2 | (with_reducible refine Kd.C_alloc ?_ _) | (with_reducible refine Kd.C_drewN ?_ _) | (with_reducible refine Kd.C_drew ?_))); (case side4 => exact (Kd.R_reads' HO_337003.out).2.1); rintro e w32 ⟨rfl, hb⟩; have n0_ := Aside0.mk (Kd.R_below (by (with_reducible repeat (first | apply Kd.R_alloc | apply Kd.R_drewN | apply Kd.R_drew)); exact HO_328003.out) hb); have n1_ := Aside0.mk (Kd.R_below (by (with_reducible repeat (first | apply Kd.R_alloc | apply Kd.R_drewN | apply Kd.R_drew)); exact HO_337003.out) hb); have n2_ := Aside0.mk (blk_below (g := gb327) (o := .cells #[.int .i64 t319, .int .i64 t320, .string t321, .slice Ao16 t322.length co16] 26 (0, 0)) (by (with_reducible repeat (first | refine blk_drewN ?_ _ | refine blk_drew ?_ | refine blk_alloc ?_ _)); exact BK327.out) hb); have n3_ := Aside0.mk (blk_below (g := gb336) (o := .cells #[.int .i64 t328, .int .i64 t329, .string t330, .slice Ao21 t331.length co21] 26 (0, 0)) (by (with_reducible repeat (first | refine blk_drewN ?_ _ | refine blk_drew ?_ | refine blk_alloc ?_ _)); exact BK336.out) hb); have n4_ := Aside0.mk (below_step (by repeat (first | (with_reducible first | exact HB.out | apply below_alloc | apply pw_below_drewN | apply below_drew1 | refine below_set ?_ GE327.out | refine below_set ?_ GE336.out) | exact HB.out)) hb); clear HO_328003; clear HO_337003; clear BK327; clear BK336; clear HB; have HO_328003 := n0_; have HO_337003 := n1_; have BK327 := n2_; have BK336 := n3_; have HB := n4_; clear n0_ n1_ n2_ n3_ n4_; (try clear hb); (try clear hb2); (try clear hk); (try clear hi)) | (go_at_call 17; (with_reducible refine (jobshelllaw05_awake.calls kj11  t338 _ A28.out).mono ?_); rintro e w33 ⟨rfl, hb⟩; have n0_ := Aside0.mk (Kd.R_below (by (with_reducible repeat (first | apply Kd.R_alloc | apply Kd.R_drewN | apply Kd.R_drew)); exact HO_328003.out) hb); have n1_ := Aside0.mk (Kd.R_below (by (with_reducible repeat (first | apply Kd.R_alloc | apply Kd.R_drewN | apply Kd.R_drew)); exact HO_337003.out) hb); have n2_ := Aside0.mk (blk_below (g := gb327) (o := .cells #[.int .i64 t319, .int .i64 t320, .string t321, .slice Ao16 t322.length co16] 26 (0, 0)) (by (with_reducible repeat (first | refine blk_drewN ?_ _ | refine blk_drew ?_ | refine blk_alloc ?_ _)); exact BK327.out) hb); have n3_ := Aside0.mk (blk_below (g := gb336) (o := .cells #[.int .i64 t328, .int .i64 t329, .string t330, .slice Ao21 t331.length co21] 26 (0, 0)) (by (with_reducible repeat (first | refine blk_drewN ?_ _ | refine blk_drew ?_ | refine blk_alloc ?_ _)); exact BK336.out) hb); have n4_ := Aside0.mk (below_step (by repeat (first | (with_reducible first | exact HB.out | apply below_alloc | apply pw_below_drewN | apply below_drew1 | refine below_set ?_ GE327.out | refine below_set ?_ GE336.out) | exact HB.out)) hb); clear HO_328003; clear HO_337003; clear BK327; clear BK336; clear HB; have HO_328003 := n0_; have HO_337003 := n1_; have BK327 := n2_; have BK336 := n3_; have HB := n4_; clear n0_ n1_ n2_ n3_ n4_; (try clear hb); (try clear hb2); (try clear hk); (try clear hi)))
            go_ret
            exact ⟨by first | rfl | (simp [errW_none, errW_some] <;> rfl) | (simp [*, errW_none, errW_some] <;> rfl), by repeat (first | (with_reducible first | exact HB.out | apply below_alloc | apply pw_below_drewN | apply below_drew1 | refine below_set ?_ GE327.out | refine below_set ?_ GE336.out) | exact HB.out)⟩
           ·replace c27 := Bool.eq_false_iff.mpr c27
            subst c27
            have H1 : (some false) = some r := by rw [if_neg (show ¬ (false = true) by decide)] at H; exact H
            clear H
            have H := H1
            clear H1
            obtain rfl := Option.some.inj H
            have hnb34 := NB327_336.out
            have hnc34 := NB336_327.out
            have hcz35_0 : wc.cell? ⟨gb327, 0, none⟩ = some (.int .i64 t319) := (blk_cell BK327.out 0).trans rfl
            have hcz35_1 : wc.cell? ⟨gb327, 1, none⟩ = some (.int .i64 t320) := (blk_cell BK327.out 1).trans rfl
            have hcz35_2 : wc.cell? ⟨gb327, 2, none⟩ = some (.string t321) := (blk_cell BK327.out 2).trans rfl
            have hcz35_3 : wc.cell? ⟨gb327, 3, none⟩ = some (.slice Ao16 t322.length co16) := (blk_cell BK327.out 3).trans rfl
            have hfz35_0 := blk_frozen BK327.out 0
            have hfz35_1 := blk_frozen BK327.out 1
            have hfz35_2 := blk_frozen BK327.out 2
            have hfz35_3 := blk_frozen BK327.out 3
            have hcz36_0 : wc.cell? ⟨gb336, 0, none⟩ = some (.int .i64 t328) := (blk_cell BK336.out 0).trans rfl
            have hcz36_1 : wc.cell? ⟨gb336, 1, none⟩ = some (.int .i64 t329) := (blk_cell BK336.out 1).trans rfl
            have hcz36_2 : wc.cell? ⟨gb336, 2, none⟩ = some (.string t330) := (blk_cell BK336.out 2).trans rfl
            have hcz36_3 : wc.cell? ⟨gb336, 3, none⟩ = some (.slice Ao21 t331.length co21) := (blk_cell BK336.out 3).trans rfl
            have hfz36_0 := blk_frozen BK336.out 0
            have hfz36_1 := blk_frozen BK336.out 1
            have hfz36_2 := blk_frozen BK336.out 2
            have hfz36_3 := blk_frozen BK336.out 3
            go_wp2_with (first | (go_at_call 20; (with_reducible refine (jobshellref05_Same.calls kj11 t319 t320 t321 _ _ t322 t328 t329 t330 _ _ t331 false _ ?side1 ?side2 ?side3 ?side4 A26.out).mono ?_); (case side1 => repeat (first | exact (Kd.R_reads' HO_328003.out).2.2 | (with_reducible refine Kd.C_alloc ?_ _) | (with_reducible refine Kd.C_drewN ?_ _) | (with_reducible refine Kd.C_drew ?_))); (case side2 => exact (Kd.R_reads' HO_328003.out).2.1); (case side3 => repeat (first | exact (Kd.R_reads' HO_337003.out).2.2 | (with_reducible refine Kd.C_alloc ?_ _) | (with_reducible refine Kd.C_drewN ?_ _) | (with_reducible refine Kd.C_drew ?_))); (case side4 => exact (Kd.R_reads' HO_337003.out).2.1); rintro e w37 ⟨rfl, hb⟩; have n0_ := Aside0.mk (Kd.R_below (by (with_reducible repeat (first | apply Kd.R_alloc | apply Kd.R_drewN | apply Kd.R_drew)); exact HO_328003.out) hb); have n1_ := Aside0.mk (Kd.R_below (by (with_reducible repeat (first | apply Kd.R_alloc | apply Kd.R_drewN | apply Kd.R_drew)); exact HO_337003.out) hb); have n2_ := Aside0.mk (blk_below (g := gb327) (o := .cells #[.int .i64 t319, .int .i64 t320, .string t321, .slice Ao16 t322.length co16] 26 (0, 0)) (by (with_reducible repeat (first | refine blk_drewN ?_ _ | refine blk_drew ?_ | refine blk_alloc ?_ _)); exact BK327.out) hb); have n3_ := Aside0.mk (blk_below (g := gb336) (o := .cells #[.int .i64 t328, .int .i64 t329, .string t330, .slice Ao21 t331.length co21] 26 (0, 0)) (by (with_reducible repeat (first | refine blk_drewN ?_ _ | refine blk_drew ?_ | refine blk_alloc ?_ _)); exact BK336.out) hb); have n4_ := Aside0.mk (below_step (by repeat (first | (with_reducible first | exact HB.out | apply below_alloc | apply pw_below_drewN | apply below_drew1 | refine below_set ?_ GE327.out | refine below_set ?_ GE336.out) | exact HB.out)) hb); clear HO_328003; clear HO_337003; clear BK327; clear BK336; clear HB; have HO_328003 := n0_; have HO_337003 := n1_; have BK327 := n2_; have BK336 := n3_; have HB := n4_; clear n0_ n1_ n2_ n3_ n4_; (try clear hb); (try clear hb2); (try clear hk); (try clear hi)))
            go_ret
            exact ⟨by first | rfl | (simp [errW_none, errW_some] <;> rfl) | (simp [*, errW_none, errW_some] <;> rfl), by repeat (first | (with_reducible first | exact HB.out | apply below_alloc | apply pw_below_drewN | apply below_drew1 | refine below_set ?_ GE327.out | refine below_set ?_ GE336.out) | exact HB.out)⟩
          ·rw [if_neg c25] at H
           have c25b0 : (t334 == 0) = false := beq_eq_false_iff_ne.mpr c25
           have c25b1 : (t334 != 0) = true := bne_iff_ne.mpr c25
           obtain rfl := Option.some.inj H
           go_wp2
           go_ret
           exact ⟨by first | rfl | (simp [errW_none, errW_some] <;> rfl) | (simp [*, errW_none, errW_some] <;> rfl), by repeat (first | (with_reducible first | exact HB.out | apply below_alloc | apply pw_below_drewN | apply below_drew1 | refine below_set ?_ GE327.out | refine below_set ?_ GE336.out) | exact HB.out)⟩
         ·rw [if_neg c24] at H
          have c24b0 : (t335 == t326) = false := beq_eq_false_iff_ne.mpr c24
          have c24b1 : (t335 != t326) = true := bne_iff_ne.mpr c24
          obtain rfl := Option.some.inj H
          go_wp2
          go_ret
          exact ⟨by first | rfl | (simp [errW_none, errW_some] <;> rfl) | (simp [*, errW_none, errW_some] <;> rfl), by repeat (first | (with_reducible first | exact HB.out | apply below_alloc | apply pw_below_drewN | apply below_drew1 | refine below_set ?_ GE327.out | refine below_set ?_ GE336.out) | exact HB.out)⟩
        ·replace c23 := Bool.eq_false_iff.mpr c23
         subst c23
         have H1 : (if t325 < 0 then (jobshelllaw05_ArithParens.j2 kj11 a0 t325 t326 t334 t335 true) else (jobshelllaw05_ArithParens.j2 kj11 a0 t325 t326 t334 t335 (decide (t325 > (a0.size : Int))))) = some r := by rw [if_neg (show ¬ (false = true) by decide)] at H; exact H
         clear H
         have H := H1
         clear H1
         have HC38 := Aside0.mk H
         clear H
         go_upto_region 7 with (fail)
         go_cut [59] (fun v59 wc => ∃ (kq : Nat) (x59_37 : Bool), v59 = .bool x59_37 ∧ Aside0 (jobshelllaw05_ArithParens.j2 kq a0 t325 t326 t334 t335 x59_37 = some r) ∧ Aside0 (kq ≤ kj11) ∧ Aside0 (Kd.R k26 26 wc w.heap.size (fun k_ => some k_ ≠ ((.slice Ao21 t331.length co21) : Value).ownBlock ∧ k_ ≠ gb327 ∧ k_ ≠ gb336) (.slice Ao16 t322.length co16) t322) ∧ Aside0 (Kd.R k26 26 wc w.heap.size (fun k_ => some k_ ≠ ((.slice Ao16 t322.length co16) : Value).ownBlock ∧ k_ ≠ gb327 ∧ k_ ≠ gb336) (.slice Ao21 t331.length co21) t331) ∧ Aside0 (wc.heap[gb327]? = some (.cells #[.int .i64 t319, .int .i64 t320, .string t321, (.slice Ao16 t322.length co16)] 26 (0, 0))) ∧ Aside0 (wc.heap[gb336]? = some (.cells #[.int .i64 t328, .int .i64 t329, .string t330, (.slice Ao21 t331.length co21)] 26 (0, 0))) ∧ Aside0 (Below w.heap.size w wc))
         case first =>
          have H := HC38.out
          clear HC38
          by_cases c39 : t325 < 0
          ·rw [if_pos c39] at H
           have c39b0 : decide (t325 < 0) = true := decide_eq_true c39
           clear c39
           (first | rw [c39b0] | (simp only [i64_w, i32_w]; rw [c39b0]) | skip)
           have H' := Aside0.mk H
           clear H
           go_wp2
           go_meet
           case rel => exact ⟨_, (true), (by first | rfl | (simp; done) | (simp [*]; done)), H', ⟨by have := HJ1.out; have := HJ11.out; first | omega | exact Nat.le_refl _⟩, ⟨by (with_reducible repeat (first | apply Kd.R_alloc | apply Kd.R_drewN | apply Kd.R_drew)); exact HO_328003.out⟩, ⟨by (with_reducible repeat (first | apply Kd.R_alloc | apply Kd.R_drewN | apply Kd.R_drew)); exact HO_337003.out⟩, ⟨by (with_reducible repeat (first | refine blk_drewN ?_ _ | refine blk_drew ?_ | refine blk_alloc ?_ _)); exact BK327.out⟩, ⟨by (with_reducible repeat (first | refine blk_drewN ?_ _ | refine blk_drew ?_ | refine blk_alloc ?_ _)); exact BK336.out⟩, ⟨by repeat (first | (with_reducible first | exact HB.out | apply below_alloc | apply pw_below_drewN | apply below_drew1 | refine below_set ?_ GE327.out | refine below_set ?_ GE336.out) | exact HB.out)⟩⟩
          ·rw [if_neg c39] at H
           have c39b0 : decide (t325 < 0) = false := decide_eq_false c39
           clear c39
           (first | rw [c39b0] | (simp only [i64_w, i32_w]; rw [c39b0]) | skip)
           have H' := Aside0.mk H
           clear H
           go_wp2
           go_meet
           case rel => exact ⟨_, (decide (t325 > (a0.size : Int))), (by first | rfl | (simp; done) | (simp [*]; done)), H', ⟨by have := HJ1.out; have := HJ11.out; first | omega | exact Nat.le_refl _⟩, ⟨by (with_reducible repeat (first | apply Kd.R_alloc | apply Kd.R_drewN | apply Kd.R_drew)); exact HO_328003.out⟩, ⟨by (with_reducible repeat (first | apply Kd.R_alloc | apply Kd.R_drewN | apply Kd.R_drew)); exact HO_337003.out⟩, ⟨by (with_reducible repeat (first | refine blk_drewN ?_ _ | refine blk_drew ?_ | refine blk_alloc ?_ _)); exact BK327.out⟩, ⟨by (with_reducible repeat (first | refine blk_drewN ?_ _ | refine blk_drew ?_ | refine blk_alloc ?_ _)); exact BK336.out⟩, ⟨by repeat (first | (with_reducible first | exact HB.out | apply below_alloc | apply pw_below_drewN | apply below_drew1 | refine below_set ?_ GE327.out | refine below_set ?_ GE336.out) | exact HB.out)⟩⟩
         case rest =>
          clear HC38
          try clear c1
          try clear c2
          try clear p2
          try clear c3
          try clear c3b0
          try clear c3b1
          try clear c5
          try clear c9
          try clear c9b0
          try clear c9b1
          try clear c9b2
          try clear c10
          try clear c10b0
          try clear c10b1
          try clear c10b2
          try clear c17
          try clear c18
          try clear c19
          try clear c22
          try clear c22b0
          try clear c22b1
          try clear c23
          try clear c24
          try clear c24b0
          try clear c24b1
          try clear c25
          try clear c25b0
          try clear c25b1
          try clear c27
          try clear c29
          try clear c34
          try clear c39
          try clear c39b0
          try clear hcz15_0
          try clear hcz15_1
          try clear hcz15_2
          try clear hcz15_3
          try clear hcz20_0
          try clear hcz20_1
          try clear hcz20_2
          try clear hcz20_3
          try clear hcz30_0
          try clear hcz30_1
          try clear hcz30_2
          try clear hcz30_3
          try clear hcz31_0
          try clear hcz31_1
          try clear hcz31_2
          try clear hcz31_3
          try clear hcz35_0
          try clear hcz35_1
          try clear hcz35_2
          try clear hcz35_3
          try clear hcz36_0
          try clear hcz36_1
          try clear hcz36_2
          try clear hcz36_3
          try clear hfz15_0
          try clear hfz15_1
          try clear hfz15_2
          try clear hfz15_3
          try clear hfz20_0
          try clear hfz20_1
          try clear hfz20_2
          try clear hfz20_3
          try clear hfz30_0
          try clear hfz30_1
          try clear hfz30_2
          try clear hfz30_3
          try clear hfz31_0
          try clear hfz31_1
          try clear hfz31_2
          try clear hfz31_3
          try clear hfz35_0
          try clear hfz35_1
          try clear hfz35_2
          try clear hfz35_3
          try clear hfz36_0
          try clear hfz36_1
          try clear hfz36_2
          try clear hfz36_3
          try clear p2
          obtain ⟨kq, x59_37, rfl, HA, HJ37, HO_328003, HO_337003, BK327, BK336, HB⟩ := hcut
          cases kq with
          | zero => exact absurd HA.out (by simp [jobshelllaw05_ArithParens.j2])
          | succ kj37 =>
           have H := HA.out
           clear HA
           simp only [jobshelllaw05_ArithParens.j2] at H
           by_cases c40 : x59_37 = true
           ·subst c40
            have H1 : (some false) = some r := by rw [if_pos rfl] at H; exact H
            clear H
            have H := H1
            clear H1
            obtain rfl := Option.some.inj H
            go_wp2
            go_ret
            exact ⟨by first | rfl | (simp [errW_none, errW_some] <;> rfl) | (simp [*, errW_none, errW_some] <;> rfl), by repeat (first | (with_reducible first | exact HB.out | apply below_alloc | apply pw_below_drewN | apply below_drew1 | refine below_set ?_ GE327.out | refine below_set ?_ GE336.out) | exact HB.out)⟩
           ·replace c40 := Bool.eq_false_iff.mpr c40
            subst c40
            have H1 : (if t325 = (a0.size : Int) then (if t335 = 6 then (if t334 > t325 then ((jobshelllaw05_awake.f kj37).bind fun t339 => (some t339)) else (some false)) else (some false)) else (if 0 ≤ t325 then (if t325 < (a0.size : Int) then (if (bt a0 t325) = 41 then ((jobshelllaw05_awake.f kj37).bind fun t340 => (some t340)) else (if t334 = (wrap64 (t325 + 1)) then (if t335 = t326 then ((jobshelllaw05_awake.f kj37).bind fun t341 => (some t341)) else (some false)) else (some false))) else (none)) else (none))) = some r := by rw [if_neg (show ¬ (false = true) by decide)] at H; exact H
            clear H
            have H := H1
            clear H1
            by_cases c41 : t325 = (a0.size : Int)
            ·rw [if_pos c41] at H
             have c41b0 : (t325 == (a0.size : Int)) = true := beq_iff_eq.mpr c41
             have c41b1 : (t325 != (a0.size : Int)) = false := bne_eq_false_iff_eq.mpr c41
             clear c41
             by_cases c42 : t335 = 6
             ·rw [if_pos c42] at H
              have c42b0 : (t335 == 6) = true := beq_iff_eq.mpr c42
              have c42b1 : (t335 != 6) = false := bne_eq_false_iff_eq.mpr c42
              clear c42
              by_cases c43 : t334 > t325
              ·rw [if_pos c43] at H
               have c43b0 : decide (t325 < t334) = true := decide_eq_true c43
               clear c43
               replace H := Option.bind_eq_some_iff.mp H
               obtain ⟨t339, A440, H⟩ := H
               replace H : (some t339) = some r := H
               have A44 := Aside0.mk A440
               clear A440
               obtain rfl := Option.some.inj H
               go_wp2_with (first | (go_at_call 17; (with_reducible refine (jobshelllaw05_awake.calls kj37  t339 _ A44.out).mono ?_); rintro e w45 ⟨rfl, hb⟩; have n0_ := Aside0.mk (Kd.R_below (by (with_reducible repeat (first | apply Kd.R_alloc | apply Kd.R_drewN | apply Kd.R_drew)); exact HO_328003.out) hb); have n1_ := Aside0.mk (Kd.R_below (by (with_reducible repeat (first | apply Kd.R_alloc | apply Kd.R_drewN | apply Kd.R_drew)); exact HO_337003.out) hb); have n2_ := Aside0.mk (blk_below (g := gb327) (o := .cells #[.int .i64 t319, .int .i64 t320, .string t321, .slice Ao16 t322.length co16] 26 (0, 0)) (by (with_reducible repeat (first | refine blk_drewN ?_ _ | refine blk_drew ?_ | refine blk_alloc ?_ _)); exact BK327.out) hb); have n3_ := Aside0.mk (blk_below (g := gb336) (o := .cells #[.int .i64 t328, .int .i64 t329, .string t330, .slice Ao21 t331.length co21] 26 (0, 0)) (by (with_reducible repeat (first | refine blk_drewN ?_ _ | refine blk_drew ?_ | refine blk_alloc ?_ _)); exact BK336.out) hb); have n4_ := Aside0.mk (below_step (by repeat (first | (with_reducible first | exact HB.out | apply below_alloc | apply pw_below_drewN | apply below_drew1 | refine below_set ?_ GE327.out | refine below_set ?_ GE336.out) | exact HB.out)) hb); clear HO_328003; clear HO_337003; clear BK327; clear BK336; clear HB; have HO_328003 := n0_; have HO_337003 := n1_; have BK327 := n2_; have BK336 := n3_; have HB := n4_; clear n0_ n1_ n2_ n3_ n4_; (try clear hb); (try clear hb2); (try clear hk); (try clear hi)))
               go_ret
               exact ⟨by first | rfl | (simp [errW_none, errW_some] <;> rfl) | (simp [*, errW_none, errW_some] <;> rfl), by repeat (first | (with_reducible first | exact HB.out | apply below_alloc | apply pw_below_drewN | apply below_drew1 | refine below_set ?_ GE327.out | refine below_set ?_ GE336.out) | exact HB.out)⟩
              ·rw [if_neg c43] at H
               have c43b0 : decide (t325 < t334) = false := decide_eq_false c43
               clear c43
               obtain rfl := Option.some.inj H
               go_wp2
               go_ret
               exact ⟨by first | rfl | (simp [errW_none, errW_some] <;> rfl) | (simp [*, errW_none, errW_some] <;> rfl), by repeat (first | (with_reducible first | exact HB.out | apply below_alloc | apply pw_below_drewN | apply below_drew1 | refine below_set ?_ GE327.out | refine below_set ?_ GE336.out) | exact HB.out)⟩
             ·rw [if_neg c42] at H
              have c42b0 : (t335 == 6) = false := beq_eq_false_iff_ne.mpr c42
              have c42b1 : (t335 != 6) = true := bne_iff_ne.mpr c42
              obtain rfl := Option.some.inj H
              go_wp2
              go_ret
              exact ⟨by first | rfl | (simp [errW_none, errW_some] <;> rfl) | (simp [*, errW_none, errW_some] <;> rfl), by repeat (first | (with_reducible first | exact HB.out | apply below_alloc | apply pw_below_drewN | apply below_drew1 | refine below_set ?_ GE327.out | refine below_set ?_ GE336.out) | exact HB.out)⟩
            ·rw [if_neg c41] at H
             have c41b0 : (t325 == (a0.size : Int)) = false := beq_eq_false_iff_ne.mpr c41
             have c41b1 : (t325 != (a0.size : Int)) = true := bne_iff_ne.mpr c41
             by_cases c46 : 0 ≤ t325
             ·rw [if_pos c46] at H
              have c46b0 : decide (0 ≤ t325) = true := decide_eq_true c46
              clear c46
              by_cases c47 : t325 < (a0.size : Int)
              ·rw [if_pos c47] at H
               have c47b0 : decide (t325 < (a0.size : Int)) = true := decide_eq_true c47
               clear c47
               by_cases c49 : (bt a0 t325) = 41
               ·rw [if_pos c49] at H
                have c49b0 : ((bt a0 t325) == 41) = true := beq_iff_eq.mpr c49
                have c49b1 : ((bt a0 t325) != 41) = false := bne_eq_false_iff_eq.mpr c49
                clear c49
                replace H := Option.bind_eq_some_iff.mp H
                obtain ⟨t340, A500, H⟩ := H
                replace H : (some t340) = some r := H
                have A50 := Aside0.mk A500
                clear A500
                obtain rfl := Option.some.inj H
                have p48 : 0 ≤ (t325 : Int) := of_decide_eq_true (by first | (with_reducible assumption) | assumption)
                have q48 : t325 < (a0.size : Int) := of_decide_eq_true (by first | (with_reducible assumption) | assumption)
                have hx48 := bt_at a0 t325
                replace p48 := eq_true p48
                replace q48 := eq_true q48
                go_wp2_with (first | (go_at_call 17; (with_reducible refine (jobshelllaw05_awake.calls kj37  t340 _ A50.out).mono ?_); rintro e w51 ⟨rfl, hb⟩; have n0_ := Aside0.mk (Kd.R_below (by (with_reducible repeat (first | apply Kd.R_alloc | apply Kd.R_drewN | apply Kd.R_drew)); exact HO_328003.out) hb); have n1_ := Aside0.mk (Kd.R_below (by (with_reducible repeat (first | apply Kd.R_alloc | apply Kd.R_drewN | apply Kd.R_drew)); exact HO_337003.out) hb); have n2_ := Aside0.mk (blk_below (g := gb327) (o := .cells #[.int .i64 t319, .int .i64 t320, .string t321, .slice Ao16 t322.length co16] 26 (0, 0)) (by (with_reducible repeat (first | refine blk_drewN ?_ _ | refine blk_drew ?_ | refine blk_alloc ?_ _)); exact BK327.out) hb); have n3_ := Aside0.mk (blk_below (g := gb336) (o := .cells #[.int .i64 t328, .int .i64 t329, .string t330, .slice Ao21 t331.length co21] 26 (0, 0)) (by (with_reducible repeat (first | refine blk_drewN ?_ _ | refine blk_drew ?_ | refine blk_alloc ?_ _)); exact BK336.out) hb); have n4_ := Aside0.mk (below_step (by repeat (first | (with_reducible first | exact HB.out | apply below_alloc | apply pw_below_drewN | apply below_drew1 | refine below_set ?_ GE327.out | refine below_set ?_ GE336.out) | exact HB.out)) hb); clear HO_328003; clear HO_337003; clear BK327; clear BK336; clear HB; have HO_328003 := n0_; have HO_337003 := n1_; have BK327 := n2_; have BK336 := n3_; have HB := n4_; clear n0_ n1_ n2_ n3_ n4_; (try clear hb); (try clear hb2); (try clear hk); (try clear hi)))
                go_ret
                exact ⟨by first | rfl | (simp [errW_none, errW_some] <;> rfl) | (simp [*, errW_none, errW_some] <;> rfl), by repeat (first | (with_reducible first | exact HB.out | apply below_alloc | apply pw_below_drewN | apply below_drew1 | refine below_set ?_ GE327.out | refine below_set ?_ GE336.out) | exact HB.out)⟩
               ·rw [if_neg c49] at H
                have c49b0 : ((bt a0 t325) == 41) = false := beq_eq_false_iff_ne.mpr c49
                have c49b1 : ((bt a0 t325) != 41) = true := bne_iff_ne.mpr c49
                by_cases c52 : t334 = (wrap64 (t325 + 1))
                ·rw [if_pos c52] at H
                 have c52b0 : (t334 == (wrap64 (t325 + 1))) = true := beq_iff_eq.mpr c52
                 have c52b1 : (t334 != (wrap64 (t325 + 1))) = false := bne_eq_false_iff_eq.mpr c52
                 clear c52
                 by_cases c53 : t335 = t326
                 ·rw [if_pos c53] at H
                  have c53b0 : (t335 == t326) = true := beq_iff_eq.mpr c53
                  have c53b1 : (t335 != t326) = false := bne_eq_false_iff_eq.mpr c53
                  clear c53
                  replace H := Option.bind_eq_some_iff.mp H
                  obtain ⟨t341, A540, H⟩ := H
                  replace H : (some t341) = some r := H
                  have A54 := Aside0.mk A540
                  clear A540
                  obtain rfl := Option.some.inj H
                  have p48 : 0 ≤ (t325 : Int) := of_decide_eq_true (by first | (with_reducible assumption) | assumption)
                  have q48 : t325 < (a0.size : Int) := of_decide_eq_true (by first | (with_reducible assumption) | assumption)
                  have hx48 := bt_at a0 t325
                  replace p48 := eq_true p48
                  replace q48 := eq_true q48
                  go_wp2_with (first | (go_at_call 17; (with_reducible refine (jobshelllaw05_awake.calls kj37  t341 _ A54.out).mono ?_); rintro e w55 ⟨rfl, hb⟩; have n0_ := Aside0.mk (Kd.R_below (by (with_reducible repeat (first | apply Kd.R_alloc | apply Kd.R_drewN | apply Kd.R_drew)); exact HO_328003.out) hb); have n1_ := Aside0.mk (Kd.R_below (by (with_reducible repeat (first | apply Kd.R_alloc | apply Kd.R_drewN | apply Kd.R_drew)); exact HO_337003.out) hb); have n2_ := Aside0.mk (blk_below (g := gb327) (o := .cells #[.int .i64 t319, .int .i64 t320, .string t321, .slice Ao16 t322.length co16] 26 (0, 0)) (by (with_reducible repeat (first | refine blk_drewN ?_ _ | refine blk_drew ?_ | refine blk_alloc ?_ _)); exact BK327.out) hb); have n3_ := Aside0.mk (blk_below (g := gb336) (o := .cells #[.int .i64 t328, .int .i64 t329, .string t330, .slice Ao21 t331.length co21] 26 (0, 0)) (by (with_reducible repeat (first | refine blk_drewN ?_ _ | refine blk_drew ?_ | refine blk_alloc ?_ _)); exact BK336.out) hb); have n4_ := Aside0.mk (below_step (by repeat (first | (with_reducible first | exact HB.out | apply below_alloc | apply pw_below_drewN | apply below_drew1 | refine below_set ?_ GE327.out | refine below_set ?_ GE336.out) | exact HB.out)) hb); clear HO_328003; clear HO_337003; clear BK327; clear BK336; clear HB; have HO_328003 := n0_; have HO_337003 := n1_; have BK327 := n2_; have BK336 := n3_; have HB := n4_; clear n0_ n1_ n2_ n3_ n4_; (try clear hb); (try clear hb2); (try clear hk); (try clear hi)))
                  go_ret
                  exact ⟨by first | rfl | (simp [errW_none, errW_some] <;> rfl) | (simp [*, errW_none, errW_some] <;> rfl), by repeat (first | (with_reducible first | exact HB.out | apply below_alloc | apply pw_below_drewN | apply below_drew1 | refine below_set ?_ GE327.out | refine below_set ?_ GE336.out) | exact HB.out)⟩
                 ·rw [if_neg c53] at H
                  have c53b0 : (t335 == t326) = false := beq_eq_false_iff_ne.mpr c53
                  have c53b1 : (t335 != t326) = true := bne_iff_ne.mpr c53
                  obtain rfl := Option.some.inj H
                  have p48 : 0 ≤ (t325 : Int) := of_decide_eq_true (by first | (with_reducible assumption) | assumption)
                  have q48 : t325 < (a0.size : Int) := of_decide_eq_true (by first | (with_reducible assumption) | assumption)
                  have hx48 := bt_at a0 t325
                  replace p48 := eq_true p48
                  replace q48 := eq_true q48
                  go_wp2
                  go_ret
                  exact ⟨by first | rfl | (simp [errW_none, errW_some] <;> rfl) | (simp [*, errW_none, errW_some] <;> rfl), by repeat (first | (with_reducible first | exact HB.out | apply below_alloc | apply pw_below_drewN | apply below_drew1 | refine below_set ?_ GE327.out | refine below_set ?_ GE336.out) | exact HB.out)⟩
                ·rw [if_neg c52] at H
                 have c52b0 : (t334 == (wrap64 (t325 + 1))) = false := beq_eq_false_iff_ne.mpr c52
                 have c52b1 : (t334 != (wrap64 (t325 + 1))) = true := bne_iff_ne.mpr c52
                 obtain rfl := Option.some.inj H
                 have p48 : 0 ≤ (t325 : Int) := of_decide_eq_true (by first | (with_reducible assumption) | assumption)
                 have q48 : t325 < (a0.size : Int) := of_decide_eq_true (by first | (with_reducible assumption) | assumption)
                 have hx48 := bt_at a0 t325
                 replace p48 := eq_true p48
                 replace q48 := eq_true q48
                 go_wp2
                 go_ret
                 exact ⟨by first | rfl | (simp [errW_none, errW_some] <;> rfl) | (simp [*, errW_none, errW_some] <;> rfl), by repeat (first | (with_reducible first | exact HB.out | apply below_alloc | apply pw_below_drewN | apply below_drew1 | refine below_set ?_ GE327.out | refine below_set ?_ GE336.out) | exact HB.out)⟩
              ·rw [if_neg c47] at H
               exact absurd H (by simp)
             ·rw [if_neg c46] at H
              exact absurd H (by simp)
     ·rw [if_neg c10] at H
      exact absurd H (by simp)
    ·rw [if_neg c9] at H
     exact absurd H (by simp)
end Go.Proofs.YtglmdfddgmkmaaaDoor.Q
end
section
namespace Go.Proofs.YtglmdfddgmkmaaaDoor.Q
open Go.RowKit Go.Proofs.YtglmdfddgmkmaaaDoorW.PrintWords
set_option linter.unusedVariables false
set_option linter.unusedSimpArgs false
abbrev sl (s : ByteArray) : List UInt8 := s.data.toList
def blkB (b : UInt8) : Bool := isBl (b.toNat : Int)
def wrdB (b : UInt8) : Bool := arith_wordByte.f (b.toNat : Int) == some true
def oprB (l : List UInt8) : Bool := arith_operator.f ⟨l.toArray⟩ == some true
def opL (r : List UInt8) : Nat → Nat
 | 0 => 0
 | k + 1 => if k = 0 ∨ oprB (r.take (k + 1)) = true then k + 1 else opL r k
def lexN (r : List UInt8) : Nat := if (r.takeWhile wrdB).length = 0 then opL r (min 3 r.length) else (r.takeWhile wrdB).length
def tk (L : List UInt8) : ByteArray := ⟨(L.take (lexN L)).toArray⟩
def nx (L : List UInt8) : List UInt8 := (L.drop (lexN L)).dropWhile blkB
theorem sl_length (s : ByteArray) : (sl s).length = s.size := rfl
theorem sl_bt (s : ByteArray) (i : Nat) (h : i < s.size) : bt s (i : Int) = (((sl s)[i]'h).toNat : Int) := by
 unfold bt
 rw [dif_pos (show (i : Int).toNat < s.size by omega)]
 rfl
theorem drop_cons (s : ByteArray) (i : Nat) (h : i < s.size) : ∃ b, (sl s).drop i = b :: (sl s).drop (i + 1) ∧ bt s (i : Int) = (b.toNat : Int) :=
 ⟨_, List.drop_eq_getElem_cons h, sl_bt s i h⟩
theorem skipN_list (s : ByteArray) : ∀ f i, i + f = s.size → skipN s f i = i + (((sl s).drop i).takeWhile blkB).length
 | 0, i, h => by
  rw [List.drop_eq_nil_of_le (by rw [sl_length]; omega)]
  rfl
 | f + 1, i, h => by
  obtain ⟨b, hb, hv⟩ := drop_cons s i (by omega)
  rw [skipN, hb, List.takeWhile_cons, hv, skipN_list s f (i + 1) (by omega)]
  unfold blkB
  cases isBl (b.toNat : Int)
  ·simp
  ·simp [show i < s.size by omega]
   omega
theorem wordN_list (s : ByteArray) : ∀ f i, i + f = s.size → wordN s f i = i + (((sl s).drop i).takeWhile wrdB).length
 | 0, i, h => by
  rw [List.drop_eq_nil_of_le (by rw [sl_length]; omega)]
  rfl
 | f + 1, i, h => by
  obtain ⟨b, hb, hv⟩ := drop_cons s i (by omega)
  rw [wordN, hb, List.takeWhile_cons, hv, wordN_list s f (i + 1) (by omega)]
  unfold wrdB
  by_cases hw : arith_wordByte.f (b.toNat : Int) = some true
  ·simp [show i < s.size by omega, hw]
   omega
  ·simp [hw]
theorem skipB_list (s : ByteArray) (i : Nat) (h : i ≤ s.size) : skipB s i = i + (((sl s).drop i).takeWhile blkB).length := skipN_list s _ i (by omega)
theorem extract_list (s : ByteArray) (i j : Nat) : s.extract i j = ⟨(((sl s).drop i).take (j - i)).toArray⟩ := by
 apply ByteArray.ext
 rw [ByteArray.data_extract, ← Array.toArray_toList (xs := s.data.extract i j), Array.toList_extract]
theorem opK_list (r : ByteArray) : ∀ k n, opK r k n = if n = 0 then opL (sl r) k else n
 | 0, n => by
  simp only [opK, opL]
  split <;> simp_all
 | k + 1, n => by
  simp only [opK, opL]
  split
  ·rw [opK_list r k, extract_list]
   simp only [List.drop_zero, Nat.sub_zero, oprB, beq_iff_eq]
   by_cases hc : k = 0 ∨ arith_operator.f ⟨((sl r).take (k + 1)).toArray⟩ = some true
   ·rw [if_pos hc, if_neg (by omega), if_pos hc]
   ·rw [if_neg hc, if_pos rfl, if_neg hc]
  ·rfl
theorem tokN_list (r : ByteArray) : tokN r = lexN (sl r) := by
 unfold tokN lexN wordB
 rw [opK_list, wordN_list r _ 0 (by omega)]
 simp only [List.drop_zero, Nat.zero_add]
 rfl
/-- At place p of s stands L. -/
def At (s : ByteArray) (p : Nat) (L : List UInt8) : Prop := p ≤ s.size ∧ (sl s).drop p = L
theorem At.len {s p L} (h : At s p L) : p + L.length = s.size := by
 obtain ⟨h1, rfl⟩ := h
 rw [List.length_drop, sl_length]
 omega
theorem At.adv {s p A B} (h : At s p (A ++ B)) : At s (p + A.length) B := by
 obtain ⟨h1, h2⟩ := h
 have hl := At.len ⟨h1, h2⟩
 rw [List.length_append] at hl
 exact ⟨by omega, by rw [← List.drop_drop, h2, List.drop_left]⟩
theorem lexN_le (L : List UInt8) : lexN L ≤ L.length := by
 have := tokN_le ⟨L.toArray⟩
 rw [tokN_list] at this
 exact this
theorem tk_size (L : List UInt8) : (tk L).size = lexN L := by
 have := lexN_le L
 show (L.take (lexN L)).toArray.size = _
 simp
 omega
theorem next_list {s p L} (h : At s p L) : At s (nextP s p (tk L)) (nx L) ∧ nextT s p (tk L) = tk (nx L) := by
 have hle := lexN_le L
 have h1 : At s (p + (tk L).size) (L.drop (lexN L)) := by
  have h2 := At.adv (A := L.take (lexN L)) (B := L.drop (lexN L)) (by rw [List.take_append_drop]; exact h)
  rw [List.length_take, Nat.min_eq_left hle] at h2
  rw [tk_size]
  exact h2
 have h2 : At s (nextP s p (tk L)) (nx L) := by
  unfold nextP
  rw [skipB_list s _ h1.1, h1.2]
  have h3 := At.adv (A := (L.drop (lexN L)).takeWhile blkB) (B := nx L) (by unfold nx; rw [List.takeWhile_append_dropWhile]; exact h1)
  exact h3
 refine ⟨h2, ?_⟩
 unfold nextT
 rw [tokN_list]
 have e : s.extract (nextP s p (tk L)) s.size = ⟨(nx L).toArray⟩ := by
  rw [extract_list, h2.2]
  have := h2.len
  rw [List.take_of_length_le (by omega)]
 rw [e, extract_list]
 simp only [sl, List.drop_zero, Nat.sub_zero]
 rfl
theorem takeWhile_snoc {f : UInt8 → Bool} {b : UInt8} (hb : f b = false) : ∀ L : List UInt8, (L ++ [b]).takeWhile f = L.takeWhile f
 | [] => by simp [hb]
 | a :: L => by
  simp only [List.cons_append, List.takeWhile_cons]
  rw [takeWhile_snoc hb L]
theorem dropWhile_snoc {f : UInt8 → Bool} {b : UInt8} (hb : f b = false) : ∀ L : List UInt8, (L ++ [b]).dropWhile f = L.dropWhile f ++ [b]
 | [] => by simp [hb]
 | a :: L => by
  simp only [List.cons_append, List.dropWhile_cons]
  split
  ·exact dropWhile_snoc hb L
  ·rfl
theorem lexN_pos {L : List UInt8} (h : L ≠ []) : 0 < lexN L := by
 unfold lexN
 split
 ·have : ∃ k, min 3 L.length = k + 1 := ⟨min 3 L.length - 1, by have := List.length_pos_iff.mpr h; omega⟩
  obtain ⟨k, hk⟩ := this
  rw [hk]
  clear hk
  induction k with
  | zero => simp [opL]
  | succ k ih =>
   rw [opL]
   split
   ·omega
   ·exact ih
 ·omega
theorem blk41 : blkB 41 = false := by rfl
theorem wrd41 : wrdB 41 = false := by rfl
def opsL : List (List UInt8) := [[60,60,61],[62,62,61],[60,60],[62,62],[60,61],[62,61],[61,61],[33,61],[38,38],[124,124],[43,61],[45,61],[42,61],[47,61],[37,61],[38,61],[94,61],[124,61]]
theorem opr_mem {l : List UInt8} (h : oprB l = true) : l ∈ opsL := by
 refine Classical.byContradiction fun hm => ?_
 unfold oprB arith_operator.f at h
 rw [Go.ByteArray.toList_eq] at h
 simp only [opsL, List.mem_cons, List.not_mem_nil, or_false, not_or] at hm
 simp [hm] at h
theorem opr41 (l : List UInt8) : oprB (l ++ [41]) = false := by
 cases h : oprB (l ++ [41])
 ·rfl
 ·have hm := opr_mem h
  have : ∀ x ∈ opsL, x.getLast? ≠ some 41 := by decide
  exact absurd (by simp) (this _ hm)
theorem tkNil : tk [] = ⟨#[]⟩ := by rfl
theorem tk41 : tk [41] = ⟨#[41]⟩ := by rfl
theorem un0 : arith_unary.f ⟨#[]⟩ = some 0 := by kernel_rfl
theorem un41 : arith_unary.f ⟨#[41]⟩ = some 0 := by kernel_rfl
theorem bi0 : arith_binary.f ⟨#[]⟩ = some (0, 0) := by kernel_rfl
theorem bi41 : arith_binary.f ⟨#[41]⟩ = some (0, 0) := by kernel_rfl
theorem as0 : arith_assignment.f 1 ⟨#[]⟩ = some (0, false) := by kernel_rfl
theorem as41 : arith_assignment.f 1 ⟨#[41]⟩ = some (0, false) := by kernel_rfl
theorem wb41 : ¬ arith_wordByte.f (bt ⟨#[41]⟩ 0) = some true := by decide
theorem opL_app (L M : List UInt8) : ∀ k, k ≤ L.length → opL (L ++ M) k = opL L k
 | 0, _ => rfl
 | k + 1, h => by
  simp only [opL]
  rw [List.take_append_of_le_length h, opL_app L M k (by omega)]
theorem lexN_snoc {L : List UInt8} (h : L ≠ []) : lexN (L ++ [41]) = lexN L := by
 unfold lexN
 rw [takeWhile_snoc wrd41]
 split
 ·have hl := List.length_pos_iff.mpr h
  rw [List.length_append]
  rcases Nat.lt_or_ge L.length 3 with h3 | h3
  ·have e1 : min 3 (L.length + ([41] : List UInt8).length) = L.length + 1 := by simp; omega
   have e2 : min 3 L.length = L.length := by omega
   rw [e1, e2, opL, if_neg, opL_app _ _ _ (Nat.le_refl _)]
   rw [List.take_of_length_le (by simp), opr41]
   simp
   exact h
  ·have e1 : min 3 (L.length + ([41] : List UInt8).length) = 3 := by omega
   have e2 : min 3 L.length = 3 := by omega
   rw [e1, e2, opL_app _ _ _ h3]
 ·rfl
theorem tk_snoc {L : List UInt8} (h : L ≠ []) : tk (L ++ [41]) = tk L := by
 unfold tk
 rw [lexN_snoc h, List.take_append_of_le_length (lexN_le L)]
theorem nx_snoc {L : List UInt8} (h : L ≠ []) : nx (L ++ [41]) = nx L ++ [41] := by
 unfold nx
 rw [lexN_snoc h, List.drop_append_of_le_length (lexN_le L), dropWhile_snoc blk41]
/-- Behind the blanks. -/
def nb (L : List UInt8) : Prop := ∀ b ∈ L.head?, blkB b = false
theorem nb_dropWhile : ∀ L : List UInt8, nb (L.dropWhile blkB)
 | [] => fun b hb => by simp at hb
 | a :: L => by
  rw [List.dropWhile_cons]
  split
  ·exact nb_dropWhile L
  ·rename_i h
   intro b hb
   simp at hb
   subst hb
   simpa using h
theorem nb_nx (L : List UInt8) : nb (nx L) := nb_dropWhile _
/-- Something that is no blank stands before p. -/
def Nb (s : ByteArray) (p : Nat) : Prop := ∃ i, i < p ∧ isBl (bt s i) = false
theorem Nb.mono {s : ByteArray} {p q : Nat} (h : Nb s p) (hpq : p ≤ q) : Nb s q := by
 obtain ⟨i, h1, h2⟩ := h
 exact ⟨i, by omega, h2⟩
theorem At.head {s p L} (h : At s p L) (hL : L ≠ []) (hn : nb L) : isBl (bt s p) = false := by
 have hl := h.len
 have := List.length_pos_iff.mpr hL
 obtain ⟨b, hb, hv⟩ := drop_cons s p (by omega)
 rw [h.2] at hb
 have := hn b (by rw [hb]; rfl)
 rw [hv]
 exact this
theorem size' {s s' : ByteArray} (hs : sl s' = 40 :: (sl s ++ [41])) : s'.size = s.size + 2 := by
 have := congrArg List.length hs
 simpa [sl_length] using this
theorem at' {s s' : ByteArray} (hs : sl s' = 40 :: (sl s ++ [41])) {p L} (h : At s p L) : At s' (p + 1) (L ++ [41]) := by
 refine ⟨by rw [size' hs]; have := h.1; omega, ?_⟩
 rw [hs, List.drop_succ_cons, List.drop_append_of_le_length (by rw [sl_length]; exact h.1), h.2]
theorem bt' {s s' : ByteArray} (hs : sl s' = 40 :: (sl s ++ [41])) (i : Nat) (h : i < s.size) : bt s' ((i + 1 : Nat) : Int) = bt s (i : Int) := by
 obtain ⟨b, hb, hv⟩ := drop_cons s i h
 have h2 := at' hs ⟨by omega, hb⟩
 obtain ⟨b', hb', hv'⟩ := drop_cons s' (i + 1) (by rw [size' hs]; omega)
 rw [h2.2] at hb'
 simp at hb'
 rw [hv', hv, hb'.1]
theorem bare' {s s' : ByteArray} (hs : sl s' = 40 :: (sl s ++ [41])) : ∀ p, p ≤ s.size → Nb s p → bareN s' (p + 1) = bareN s p
 | 0, _, h => by obtain ⟨i, h1, _⟩ := h; omega
 | p + 1, hp, h => by
  have e1 : bareN s' (p + 1 + 1) = if isBl (bt s' ((p + 1 : Nat) : Int)) = true then bareN s' (p + 1) else !(bt s' ((p + 1 : Nat) : Int) == 41) := rfl
  have e2 : bareN s (p + 1) = if isBl (bt s (p : Int)) = true then bareN s p else !(bt s (p : Int) == 41) := rfl
  rw [e1, e2, bt' hs p (by omega)]
  split
  ·rename_i hb
   refine bare' hs p (by omega) ?_
   obtain ⟨i, h1, h2⟩ := h
   refine ⟨i, ?_, h2⟩
   rcases Nat.lt_or_ge i p with h3 | h3
   ·exact h3
   ·obtain rfl : i = p := by omega
    rw [hb] at h2
    cases h2
  ·rfl
theorem step' {s s' : ByteArray} (hs : sl s' = 40 :: (sl s ++ [41])) {p L} (h : At s p L) (hL : L ≠ []) : At s (nextP s p (tk L)) (nx L) ∧ nextT s p (tk L) = tk (nx L) ∧ nextP s' (p + 1) (tk (L ++ [41])) = nextP s p (tk L) + 1 ∧ nextT s' (p + 1) (tk (L ++ [41])) = tk (nx L ++ [41]) ∧ p < nextP s p (tk L) := by
 obtain ⟨h1, h2⟩ := next_list h
 obtain ⟨h3, h4⟩ := next_list (at' hs h)
 rw [nx_snoc hL] at h3 h4
 have l1 := h1.len
 have l3 := h3.len
 rw [List.length_append, size' hs] at l3
 have l0 := h.len
 have : (nx L).length < L.length := by
  have hp := lexN_pos hL
  have hq := lexN_le L
  have : (nx L).length ≤ (L.drop (lexN L)).length := by
   unfold nx
   exact (List.dropWhile_sublist _).length_le
  rw [List.length_drop] at this
  omega
 refine ⟨h1, h2, ?_, h4, by omega⟩
 simp at l3
 omega
/-- What the longer text may give where the shorter one ended too soon. -/
def En (s : ByteArray) (r : PRes) : Prop := (∃ y, r = some (.ok (y, s.size + 2, ⟨#[]⟩))) ∨ ∃ q, s.size < q ∧ r = some (.error (q, 6))
def Rr (s : ByteArray) (a b : PRes) : Prop :=
 match a with
 | none => True
 | some (.ok (x, p, t)) => ∃ L, At s p L ∧ nb L ∧ t = tk L ∧ Nb s p ∧ b = some (.ok (x, p + 1, tk (L ++ [41])))
 | some (.error (q, e)) => (q < s.size ∧ b = some (.error (q + 1, e))) ∨ (q = s.size ∧ e = 6 ∧ En s b)
theorem Rr.bind {s : ByteArray} {a b : PRes} {f g : S26 → Nat → ByteArray → PRes} (h : Rr s a b) (hf : ∀ x p L, At s p L → nb L → Nb s p → Rr s (f x p (tk L)) (g x (p + 1) (tk (L ++ [41])))) (hg : ∀ y, (∃ e, a = some e) → En s (g y (s.size + 2) ⟨#[]⟩)) : Rr s (ebind a f) (ebind b g) := by
 match a, h with
 | none, _ => exact True.intro
 | some (.ok (x, p, t)), h =>
  obtain ⟨L, h1, h2, rfl, h3, rfl⟩ := h
  exact hf x p L h1 h2 h3
 | some (.error (q, e)), h =>
  rcases h with ⟨h1, rfl⟩ | ⟨rfl, rfl, h2⟩
  ·exact .inl ⟨h1, rfl⟩
  ·refine .inr ⟨rfl, rfl, ?_⟩
   rcases h2 with ⟨y, rfl⟩ | ⟨q, h3, rfl⟩
   ·exact hg y ⟨_, rfl⟩
   ·exact .inr ⟨q, h3, rfl⟩
def okG : Gl → Prop
 | .level n => 1 ≤ n
 | .more n _ => 1 ≤ n
 | _ => True
def isMore : Gl → Prop
 | .more _ _ => True
 | _ => False
theorem more_end (s s' : ByteArray) (k n : Nat) (y : S26) (hn : 1 ≤ n) : En s (pr s' (k + 1) (.more n y) (s.size + 2) ⟨#[]⟩) := by
 simp only [pr, bi0]
 rw [if_neg (by omega)]
 exact .inl ⟨y, rfl⟩
theorem sim {s s' : ByteArray} (hs : sl s' = 40 :: (sl s ++ [41])) : ∀ (k : Nat) (gl : Gl) (p : Nat) (L : List UInt8), okG gl → At s p L → nb L → (isMore gl → Nb s p) → Rr s (pr s k gl p (tk L)) (pr s' k gl (p + 1) (tk (L ++ [41]))) := by
 intro k
 induction k with
 | zero => intro gl p L _ _ _ _; exact True.intro
 | succ k ih =>
  intro gl p L hg hA hb hN
  -- one token further, and the reading from there
  have go : ∀ (gl : Gl) {p L}, At s p L → L ≠ [] → nb L → okG gl → Rr s (pr s k gl (nextP s p (tk L)) (nextT s p (tk L))) (pr s' k gl (nextP s' (p + 1) (tk (L ++ [41]))) (nextT s' (p + 1) (tk (L ++ [41])))) := by
   intro gl p L hA hL hb hg
   obtain ⟨h1, h2, h3, h4, h5⟩ := step' hs hA hL
   rw [h2, h3, h4]
   exact ih gl _ _ hg h1 (nb_nx L) (fun _ => ⟨p, h5, hA.head hL hb⟩)
  have stop : ∀ {x p L}, At s p L → L ≠ [] → nb L → Rr s (some (.ok (x, nextP s p (tk L), nextT s p (tk L)))) (some (.ok (x, nextP s' (p + 1) (tk (L ++ [41])), nextT s' (p + 1) (tk (L ++ [41]))))) := by
   intro x p L hA hL hb
   obtain ⟨h1, h2, h3, h4, h5⟩ := step' hs hA hL
   rw [h2, h3, h4]
   exact ⟨_, h1, nb_nx L, rfl, ⟨p, h5, hA.head hL hb⟩, rfl⟩
  have end_ : ∀ {p}, At s p [] → p = s.size := by
   intro p h
   have := h.len
   simpa using this
  have lt_ : ∀ {p L}, At s p L → L ≠ [] → p < s.size := by
   intro p L h hL
   have := h.len
   have := List.length_pos_iff.mpr hL
   omega
  have kpos : ∀ {gl p t e}, pr s k gl p t = some e → ∃ j, k = j + 1 := by
   intro gl p t e h
   cases k with
   | zero => simp [pr] at h
   | succ j => exact ⟨j, rfl⟩
  cases gl with
  | first =>
   simp only [pr]
   refine (ih .second p L trivial hA hb (fun h => h.elim)).bind (fun x p1 L1 hA1 hb1 hN1 => ?_) (fun y _ => ?_)
   ·rcases Classical.em (L1 = []) with rfl | hL
    ·simp only [List.nil_append, tkNil, tk41, as0, as41]
     simp only [Bool.false_eq_true, false_and, if_false]
     exact ⟨[], hA1, hb1, rfl, hN1, by rw [List.nil_append, tk41]⟩
    ·rw [tk_snoc hL]
     rcases ha : arith_assignment.f 1 (tk L1) with _ | ⟨op, is⟩
     ·exact True.intro
     ·simp only
      rw [bare' hs p1 hA1.1 hN1]
      split
      ·have h := go .first hA1 hL hb1 trivial
       rw [tk_snoc hL] at h
       refine h.bind (fun y p2 L2 hA2 hb2 hN2 => ⟨L2, hA2, hb2, rfl, hN2, rfl⟩) (fun y _ => .inl ⟨_, rfl⟩)
      ·exact ⟨L1, hA1, hb1, rfl, hN1, by rw [tk_snoc hL]⟩
   ·simp only [as0]
    simp only [Bool.false_eq_true, false_and, if_false]
    exact .inl ⟨_, rfl⟩
  | second =>
   simp only [pr]
   refine (ih (.level 3) p L (by simp [okG]) hA hb (fun h => h.elim)).bind (fun x p1 L1 hA1 hb1 hN1 => ?_) (fun y _ => ?_)
   ·rcases Classical.em (L1 = []) with rfl | hL
    ·rw [if_neg (by rw [tkNil, Go.ByteArray.toList_eq]; simp), if_neg (by rw [List.nil_append, tk41, Go.ByteArray.toList_eq]; decide)]
     exact ⟨[], hA1, hb1, rfl, hN1, rfl⟩
    ·rw [tk_snoc hL]
     split
     ·have h := go .first hA1 hL hb1 trivial
      rw [tk_snoc hL] at h
      refine h.bind (fun y p2 L2 hA2 hb2 hN2 => ?_) (fun y _ => ?_)
      ·rcases Classical.em (L2 = []) with rfl | hL2
       ·rw [if_neg (by rw [tkNil, Go.ByteArray.toList_eq]; simp), if_neg (by rw [List.nil_append, tk41, Go.ByteArray.toList_eq]; decide)]
        exact .inr ⟨end_ hA2, rfl, .inr ⟨p2 + 1, by rw [end_ hA2]; omega, rfl⟩⟩
       ·rw [tk_snoc hL2]
        split
        ·have h := go .second hA2 hL2 hb2 trivial
         rw [tk_snoc hL2] at h
         exact h.bind (fun z p3 L3 hA3 hb3 hN3 => ⟨L3, hA3, hb3, rfl, hN3, rfl⟩) (fun y _ => .inl ⟨_, rfl⟩)
        ·exact .inl ⟨lt_ hA2 hL2, rfl⟩
      ·rw [if_neg (by rw [Go.ByteArray.toList_eq]; simp)]
       exact .inr ⟨_, by omega, rfl⟩
     ·exact ⟨L1, hA1, hb1, rfl, hN1, by rw [tk_snoc hL]⟩
   ·rw [if_neg (by rw [Go.ByteArray.toList_eq]; simp)]
    exact .inl ⟨_, rfl⟩
  | level n =>
   simp only [pr]
   split
   ·exact ih .operand p L trivial hA hb (fun h => h.elim)
   ·refine (ih (.level (n + 1)) p L (by simp [okG]) hA hb (fun h => h.elim)).bind (fun x p1 L1 hA1 hb1 hN1 => ?_) (fun y h => ?_)
    ·exact ih (.more n x) p1 L1 hg hA1 hb1 (fun _ => hN1)
    ·obtain ⟨e, h⟩ := h
     obtain ⟨j, rfl⟩ := kpos h
     exact more_end s s' j n y hg
  | more n x =>
   simp only [pr]
   rcases Classical.em (L = []) with rfl | hL
   ·simp only [List.nil_append, tkNil, tk41, bi0, bi41]
    have hg : 1 ≤ n := hg
    rw [if_neg (by omega), if_neg (by omega)]
    exact ⟨[], hA, hb, rfl, hN trivial, by rw [List.nil_append, tk41]⟩
   ·have h := go (.level (n + 1)) hA hL hb (by simp [okG])
    rw [tk_snoc hL] at h ⊢
    rcases ha : arith_binary.f (tk L) with _ | ⟨op, l⟩
    ·exact True.intro
    ·simp only
     split
     ·refine h.bind (fun y p1 L1 hA1 hb1 hN1 => ih (.more n _) p1 L1 hg hA1 hb1 (fun _ => hN1)) (fun y h => ?_)
      obtain ⟨e, h⟩ := h
      obtain ⟨j, rfl⟩ := kpos h
      exact more_end s s' j n _ hg
     ·exact ⟨L, hA, hb, rfl, hN trivial, by rw [tk_snoc hL]⟩
  | operand =>
   simp only [pr]
   rcases Classical.em (L = []) with rfl | hL
   ·simp only [List.nil_append, tkNil, tk41, un0, un41]
    rw [if_neg (by simp), if_neg (by rw [Go.ByteArray.toList_eq]; simp), if_pos (.inl rfl), if_neg (by simp), if_neg (by rw [Go.ByteArray.toList_eq]; decide), if_pos (.inr wb41)]
    exact .inr ⟨end_ hA, rfl, .inr ⟨p + 1, by rw [end_ hA]; omega, rfl⟩⟩
   ·have go1 := go .operand hA hL hb trivial
    have go2 := go .first hA hL hb trivial
    have st := fun x => stop (x := x) hA hL hb
    rw [tk_snoc hL] at go1 go2
    simp only [tk_snoc hL] at st
    rw [tk_snoc hL]
    have err : ∀ e, Rr s (some (.error (p, e))) (some (.error (p + 1, e))) := fun e => .inl ⟨lt_ hA hL, rfl⟩
    rcases ha : arith_unary.f (tk L) with _ | op
    ·exact True.intro
    ·simp only
     split
     ·exact go1.bind (fun y p1 L1 hA1 hb1 hN1 => ⟨L1, hA1, hb1, rfl, hN1, rfl⟩) (fun y _ => .inl ⟨_, rfl⟩)
     ·split
      ·refine go2.bind (fun y p1 L1 hA1 hb1 hN1 => ?_) (fun y _ => ?_)
       ·rcases Classical.em (L1 = []) with rfl | hL1
        ·rw [if_neg (by rw [tkNil, Go.ByteArray.toList_eq]; simp), if_pos (by rw [List.nil_append, tk41, Go.ByteArray.toList_eq])]
         refine .inr ⟨end_ hA1, rfl, .inl ⟨y, ?_⟩⟩
         obtain ⟨h1, h2⟩ := next_list (at' hs hA1)
         have e : nx ([] ++ [41]) = [] := by rfl
         rw [e] at h1 h2
         rw [h2]
         have := h1.len
         rw [size' hs] at this
         simp at this
         rw [show nextP s' (p1 + 1) (tk ([] ++ [41])) = s.size + 2 from this]
         rfl
        ·have st := stop (x := y) hA1 hL1 hb1
         rw [tk_snoc hL1] at st ⊢
         split
         ·exact st
         ·exact .inl ⟨lt_ hA1 hL1, rfl⟩
       ·rw [if_neg (by rw [Go.ByteArray.toList_eq]; simp)]
        exact .inr ⟨_, by omega, rfl⟩
      ·split
       ·exact err 6
       ·split
        ·rcases hn : arith_number.f ((tk L).size + 3) (tk L) with _ | ⟨n, e⟩
         ·exact True.intro
         ·simp only
          split
          ·exact st _
          ·exact err e
        ·split
         ·exact st _
         ·exact err 10
end Go.Proofs.YtglmdfddgmkmaaaDoor.Q
end
section
namespace Go.Proofs.YtglmdfddgmkmaaaDoor.Q
open Go.RowKit Go.Proofs.YtglmdfddgmkmaaaDoorW.PrintWords
set_option linter.unusedVariables false
set_option linter.unusedSimpArgs false
theorem pr_up (s : ByteArray) {k n : Nat} (h : k ≤ n) {gl p t r} (hr : pr s k gl p t = some r) : pr s n gl p t = some r := by
 induction h with
 | refl => exact hr
 | step _ ih => exact pr_mono s _ _ _ _ _ ih
/-- The place of a suffix. -/
def pl (s : ByteArray) (L : List UInt8) : Nat := s.size - L.length
def okL (s : ByteArray) (x : S26) (L : List UInt8) : Except (Nat × Int) (S26 × Nat × ByteArray) := .ok (x, pl s L, tk L)
/-- From the suffix L on, the goal gl gives r. -/
def E (s : ByteArray) (gl : Gl) (L : List UInt8) (r : Except (Nat × Int) (S26 × Nat × ByteArray)) : Prop := ∃ k, pr s k gl (pl s L) (tk L) = some r
theorem pl_at {s L} (h : L <:+ sl s) : At s (pl s L) L := by
 obtain ⟨A, hA⟩ := h
 have hl : A.length + L.length = s.size := by rw [← List.length_append, hA]; rfl
 have e : pl s L = A.length := by unfold pl; omega
 refine ⟨by omega, ?_⟩
 rw [e, ← hA, List.drop_left]
theorem nx_suf (L : List UInt8) : nx L <:+ L := (List.dropWhile_suffix _).trans (List.drop_suffix _ _)
theorem next_pl {s L} (h : L <:+ sl s) : nextP s (pl s L) (tk L) = pl s (nx L) ∧ nextT s (pl s L) (tk L) = tk (nx L) := by
 obtain ⟨h1, h2⟩ := next_list (pl_at h)
 refine ⟨?_, h2⟩
 have h3 := h1.len
 unfold pl at *
 omega
section
variable {s : ByteArray}
theorem E.level13 {L r} (h : E s .operand L r) : E s (.level 13) L r := by
 obtain ⟨k, hk⟩ := h
 exact ⟨k + 1, by rw [pr, if_pos rfl]; exact hk⟩
theorem E.level {n L x U r} (hn : n ≠ 13) (h : E s (.level (n + 1)) L (okL s x U)) (h2 : E s (.more n x) U r) : E s (.level n) L r := by
 obtain ⟨k, hk⟩ := h
 obtain ⟨j, hj⟩ := h2
 refine ⟨k + j + 1, ?_⟩
 rw [pr, if_neg hn, pr_up s (show k ≤ k + j by omega) hk]
 exact pr_up s (show j ≤ k + j by omega) hj
theorem E.more_stop {n : Nat} {x L o l} (h : arith_binary.f (tk L) = some (o, l)) (hl : l ≠ (n : Int)) : E s (.more n x) L (okL s x L) :=
 ⟨1, by rw [pr, h]; simp only; rw [if_neg hl]; rfl⟩
theorem E.second_stop {L x U} (h : E s (.level 3) L (okL s x U)) (hq : ¬ (tk U).toList = [63]) : E s .second L (okL s x U) := by
 obtain ⟨k, hk⟩ := h
 refine ⟨k + 1, ?_⟩
 rw [pr, hk]
 show (if (tk U).toList = [63] then _ else _) = _
 rw [if_neg hq]
 rfl
theorem E.first_stop {L x U o b} (h : E s .second L (okL s x U)) (ha : arith_assignment.f 1 (tk U) = some (o, b)) (hb : b = true → x.f0 = 2 → bareN s (pl s U) = true → False) : E s .first L (okL s x U) := by
 obtain ⟨k, hk⟩ := h
 refine ⟨k + 1, ?_⟩
 rw [pr, hk]
 simp only [ebind, okL]
 rw [ha]
 simp only
 rw [if_neg (fun h => hb h.1 h.2.1 h.2.2)]
theorem E.paren {L y U} (hL : L <:+ sl s) (hU : U <:+ sl s) (h : arith_unary.f (tk L) = some 0) (hp : (tk L).toList = [40]) (h1 : E s .first (nx L) (okL s y U)) (hc : (tk U).toList = [41]) : E s .operand L (okL s y (nx U)) := by
 obtain ⟨k, hk⟩ := h1
 obtain ⟨e1, e2⟩ := next_pl hL
 obtain ⟨e3, e4⟩ := next_pl hU
 refine ⟨k + 1, ?_⟩
 rw [pr, h]
 simp only
 rw [if_neg (by simp), if_pos hp, e1, e2, hk]
 show (if (tk U).toList = [41] then _ else _) = _
 rw [if_pos hc, e3, e4]
 rfl
theorem E.num {L n} (hL : L <:+ sl s) (h : arith_unary.f (tk L) = some 0) (hp : ¬ (tk L).toList = [40]) (h0 : (tk L).size ≠ 0) (hw : arith_wordByte.f (bt (tk L) 0) = some true) (hd : arith_digit.f (bt (tk L) 0) = some true) (hn : arith_number.f ((tk L).size + 3) (tk L) = some (n, 0)) : E s .operand L (okL s ⟨1, n, noName, []⟩ (nx L)) := by
 obtain ⟨e1, e2⟩ := next_pl hL
 refine ⟨1, ?_⟩
 rw [pr, h]
 simp only
 rw [if_neg (by simp), if_neg hp, if_neg (by rintro (h | h); exact h0 h; exact h hw), if_pos hd, hn]
 simp only
 rw [if_pos trivial, e1, e2]
 rfl
theorem E.name {L} (hL : L <:+ sl s) (h : arith_unary.f (tk L) = some 0) (hp : ¬ (tk L).toList = [40]) (h0 : (tk L).size ≠ 0) (hw : arith_wordByte.f (bt (tk L) 0) = some true) (hd : ¬ arith_digit.f (bt (tk L) 0) = some true) (hn : nameB (tk L) = true) : E s .operand L (okL s ⟨2, 0, tk L, []⟩ (nx L)) := by
 obtain ⟨e1, e2⟩ := next_pl hL
 refine ⟨1, ?_⟩
 rw [pr, h]
 simp only
 rw [if_neg (by simp), if_neg hp, if_neg (by rintro (h | h); exact h0 h; exact h hw), if_neg hd, if_pos hn, e1, e2]
 rfl
/-- An operator of a level below n, or none, stands at U. -/
def Lo (n : Nat) (U : List UInt8) : Prop := ∃ o l, arith_binary.f (tk U) = some (o, l) ∧ l < (n : Int)
theorem Lo.mono {n m U} (h : Lo n U) (hnm : n ≤ m) : Lo m U := by
 obtain ⟨o, l, h1, h2⟩ := h
 exact ⟨o, l, h1, by omega⟩
/-- From a level down to a lower one. -/
theorem E.down {L x U h0} (h : E s (.level h0) L (okL s x U)) (h13 : h0 ≤ 13) : ∀ (d n : Nat), n + d = h0 → Lo n U → E s (.level n) L (okL s x U)
 | 0, n, hn, _ => by
  obtain rfl : n = h0 := by omega
  exact h
 | d + 1, n, hn, hf => by
  obtain ⟨o, l, h1, h2⟩ := hf
  exact E.level (by omega) (E.down h h13 d (n + 1) (by omega) ⟨o, l, h1, by omega⟩) (E.more_stop h1 (by omega))
theorem E.lift {L x U} (h : E s .operand L (okL s x U)) (n : Nat) (hn : n ≤ 13) (hf : Lo n U) : E s (.level n) L (okL s x U) := E.down h.level13 (Nat.le_refl _) (13 - n) n (by omega) hf
end
theorem opr_byte {l : List UInt8} (h : oprB l = true) {b : UInt8} (hb : b ∈ l) : b ∈ ([60, 62, 61, 33, 38, 124, 43, 45, 42, 47, 37, 94] : List UInt8) := by
 have hm := opr_mem h
 have : ∀ l ∈ opsL, ∀ b ∈ l, b ∈ ([60, 62, 61, 33, 38, 124, 43, 45, 42, 47, 37, 94] : List UInt8) := by decide
 exact this l hm b hb
theorem lex_of {w rest : List UInt8} (h : lexN (w ++ rest) = w.length) : tk (w ++ rest) = ⟨w.toArray⟩ ∧ nx (w ++ rest) = rest.dropWhile blkB := by
 unfold tk nx
 rw [h, List.take_left, List.drop_left]
 exact ⟨rfl, rfl⟩
theorem opL_stop (L : List UInt8) (n : Nat) (hn : 1 ≤ n) (hop : n = 1 ∨ oprB (L.take n) = true) : ∀ k, n ≤ k → (∀ m, n < m → m ≤ k → oprB (L.take m) = false) → opL L k = n
 | 0, hk, _ => by omega
 | k + 1, hk, hno => by
  rw [opL]
  rcases Nat.lt_or_ge k n with h | h
  ·obtain rfl : k + 1 = n := by omega
   rw [if_pos]
   rcases hop with h | h
   ·exact .inl (by omega)
   ·exact .inr h
  ·rw [if_neg, opL_stop L n hn hop k h (fun m h1 h2 => hno m h1 (by omega))]
   rw [hno (k + 1) (by omega) (Nat.le_refl _)]
   simp
   omega
theorem lex_op {w rest : List UInt8} (h0 : w ≠ []) (h3 : w.length ≤ 3) (hw : ∀ b ∈ w.head?, wrdB b = false) (hop : w.length = 1 ∨ oprB w = true) (hno : ∀ m, w.length < m → m ≤ (w ++ rest).length → m ≤ 3 → oprB ((w ++ rest).take m) = false) : lexN (w ++ rest) = w.length := by
 obtain ⟨c, w, rfl⟩ := List.exists_cons_of_ne_nil h0
 have hc : wrdB c = false := hw c rfl
 have e : (c :: w ++ rest).takeWhile wrdB = [] := by
  rw [List.cons_append, List.takeWhile_cons, hc]
  rfl
 unfold lexN
 rw [e, if_pos List.length_nil]
 refine opL_stop _ _ (by simp) ?_ _ ?_ ?_
 ·rcases hop with h | h
  ·exact .inl h
  ·rw [List.take_left]
   exact .inr h
 ·simp only [List.length_cons, List.length_append] at *
  omega
 ·intro m h1 h2
  exact hno m h1 (by omega) (by omega)
/-- One byte that stands in no operator. -/
theorem lex_one {c : UInt8} {rest : List UInt8} (hc : wrdB c = false) (hb : c ∉ ([60, 62, 61, 33, 38, 124, 43, 45, 42, 47, 37, 94] : List UInt8)) : lexN (c :: rest) = 1 := by
 refine lex_op (w := [c]) (by simp) (by simp) (fun b h => by simp at h; exact h ▸ hc) (.inl rfl) (fun m h1 h2 _ => ?_)
 cases h : oprB (([c] ++ rest).take m)
 ·rfl
 ·exact absurd (opr_byte h (b := c) (by
   obtain ⟨d, rfl⟩ : ∃ d, m = d + 1 := ⟨m - 1, by simp at h1; omega⟩
   simp)) hb
def asgB (n : Int) : Bool := n == 0 || (decide (7 ≤ n) && decide (n ≤ 13)) || (decide (20 ≤ n) && decide (n ≤ 22))
/-- A valid tree of at most m levels. -/
inductive V : Nat → S26 → Prop where
 | num (m : Nat) (n : Int) : 0 ≤ n → n ≤ 9223372036854775807 → V (m + 1) ⟨1, n, noName, []⟩
 | var (m : Nat) (t : ByteArray) : nameB t = true → V (m + 1) ⟨2, 0, t, []⟩
 | un (m : Nat) (op : Int) (a : S26) : 3 ≤ op → op ≤ 6 → V m a → V (m + 1) ⟨op, 0, noName, [a]⟩
 | bin (m : Nat) (op : Int) (a b : S26) : 7 ≤ op → op ≤ 24 → V m a → V m b → V (m + 1) ⟨op, 0, noName, [a, b]⟩
 | cond (m : Nat) (a b c : S26) : V m a → V m b → V m c → V (m + 1) ⟨25, 0, noName, [a, b, c]⟩
 | set (m : Nat) (n : Int) (t : ByteArray) (a : S26) : asgB n = true → nameB t = true → V m a → V (m + 1) ⟨26, n, t, [a]⟩
theorem blk_iff (b : UInt8) : blkB b = true ↔ (b.toNat = 32 ∨ b.toNat = 9 ∨ b.toNat = 10) := by
 unfold blkB isBl
 simp
 omega
/-- A byte that begins a shown text. -/
def good (b : UInt8) : Prop := blkB b = false ∧ b ≠ 61
def sep (rest : List UInt8) : Prop := rest = [] ∨ ∃ b l, rest = b :: l ∧ (b = 32 ∨ b = 41)
abbrev Vb (rest : List UInt8) : List UInt8 := rest.dropWhile blkB
theorem Vb_good {b : UInt8} {l : List UInt8} (h : blkB b = false) : Vb (b :: l) = b :: l := by
 show List.dropWhile blkB (b :: l) = _
 rw [List.dropWhile_cons, if_neg (by simp [h])]
/-- What may follow a whole expression: no operator, no '?', no assignment. -/
def Fq (U : List UInt8) : Prop := Lo 3 U ∧ ¬ (tk U).toList = [63]
def Fa (U : List UInt8) : Prop := Fq U ∧ ∃ o, arith_assignment.f 1 (tk U) = some (o, false)
def R2 (s : ByteArray) (f : Nat → List UInt8) (x : S26) : Prop := ∀ rest, (f 2 ++ rest) <:+ sl s → sep rest → Fq (Vb rest) → E s .second (f 2 ++ rest) (okL s x (Vb rest))
def R1 (s : ByteArray) (f : Nat → List UInt8) (x : S26) : Prop := ∀ rest, (f 1 ++ rest) <:+ sl s → sep rest → Fa (Vb rest) → E s .first (f 1 ++ rest) (okL s x (Vb rest))
section
variable {s : ByteArray} {x : S26} {B : List UInt8}
theorem one {c : UInt8} {rest : List UInt8} (hc : wrdB c = false) (hb : c ∉ ([60, 62, 61, 33, 38, 124, 43, 45, 42, 47, 37, 94] : List UInt8)) : tk (c :: rest) = ⟨#[c]⟩ ∧ nx (c :: rest) = Vb rest := lex_of (w := [c]) (lex_one hc hb)
end
end Go.Proofs.YtglmdfddgmkmaaaDoor.Q
end
section
namespace Go.Proofs.YtglmdfddgmkmaaaDoor.Q
open Go.RowKit Go.Proofs.YtglmdfddgmkmaaaDoorW.PrintWords
set_option linter.unusedVariables false
set_option linter.unusedSimpArgs false
theorem ite_two {c : Prop} [Decidable c] {x y : Option (Int × Int)} (hx : ∃ o l, x = some (o, l)) (hy : ∃ o l, y = some (o, l)) : ∃ o l, (if c then x else y) = some (o, l) := by
 split
 ·exact hx
 ·exact hy
theorem binary_some (t : ByteArray) : ∃ o l, arith_binary.f t = some (o, l) := by
 unfold arith_binary.f
 repeat (refine ite_two ⟨_, _, rfl⟩ ?_)
 exact ⟨_, _, rfl⟩
theorem unary_some (t : ByteArray) : ∃ o, arith_unary.f t = some o := by
 unfold arith_unary.f
 repeat' (first | exact ⟨_, rfl⟩ | split)
theorem wrap_id {z : Int} (h0 : -9223372036854775808 ≤ z) (h1 : z ≤ 9223372036854775807) : wrap64 z = z := by
 simp only [wrap64, IntKind.wrap]
 omega
theorem asg_j0 (t : ByteArray) (b : Bool) (h : b = true ∨ 1 ≤ t.size) (h1 : t.size ≤ 9223372036854775807) : ∃ o c, arith_assignment.j0 1 t b = some (o, c) := by
 rw [arith_assignment.j0]
 split
 ·exact ⟨_, _, rfl⟩
 ·rename_i hb
  have h2 : 1 ≤ t.size := by
   rcases h with h | h
   ·exact absurd h hb
   ·exact h
  rw [wrap_id (by omega) (by omega), if_pos (by omega), if_pos (by omega)]
  split
  ·rw [if_pos (by omega)]
   obtain ⟨o, l, ho⟩ := binary_some (t.extract 0 ((t.size : Int) - 1).toNat)
   rw [ho]
   simp only [Option.bind_some]
   split
   ·exact ⟨_, _, rfl⟩
   ·exact ⟨_, _, rfl⟩
  ·exact ⟨_, _, rfl⟩
theorem assignment_some (t : ByteArray) (h1 : t.size ≤ 9223372036854775807) : ∃ o c, arith_assignment.f 1 t = some (o, c) := by
 have h : ∀ l : List UInt8, l ≠ [] → t.toList = l → 1 ≤ t.size := by
  intro l hl e
  rw [Go.ByteArray.toList_eq] at e
  have : t.size = l.length := by rw [← e]; rfl
  have := List.length_pos_iff.mpr hl
  omega
 unfold arith_assignment.f
 split
 ·exact ⟨_, _, rfl⟩
 ·split
  ·exact asg_j0 t _ (.inr (h _ (List.cons_ne_nil _ _) (by assumption))) h1
  ·split
   ·exact asg_j0 t _ (.inr (h _ (List.cons_ne_nil _ _) (by assumption))) h1
   ·split
    ·exact asg_j0 t _ (.inr (h _ (List.cons_ne_nil _ _) (by assumption))) h1
    ·split
     ·exact asg_j0 t _ (.inr (h _ (List.cons_ne_nil _ _) (by assumption))) h1
     ·refine asg_j0 t _ ?_ h1
      rcases Nat.eq_zero_or_pos t.size with h0 | h0
      ·left
       have : t.toList = [] := by
        rw [Go.ByteArray.toList_eq]
        exact List.eq_nil_of_length_eq_zero h0
       rw [this]
       rfl
      ·exact .inr h0
theorem value_at (k : Nat) (c : Int) : ∃ d, arith_value.f (k + 1) c = some d := by
 unfold arith_value.f
 have hj : ∀ b, ∃ d, arith_value.j0 (k + 1) c b = some d := by
  intro b
  rw [arith_value.j0]
  repeat' split
  all_goals exact ⟨_, rfl⟩
 have : ∃ b, arith_digit.f c = some b := by
  unfold arith_digit.f
  split
  ·exact ⟨_, rfl⟩
  ·exact ⟨_, rfl⟩
 obtain ⟨b, hb⟩ := this
 rw [hb]
 simp only [Option.bind_some]
 split
 ·exact ⟨_, rfl⟩
 ·split
  ·exact hj _
  ·exact hj _
def okE (e : Int) : Prop := e = 0 ∨ e = 6 ∨ e = 14
theorem num_loop (base : Int) (t : ByteArray) (hb : base ≠ 0) (hs : t.size ≤ 9223372036854775807) : ∀ (d i : Nat) (n : Int) (ov : Bool), i + d = t.size → ∃ r e, arith_number.l0 (d + 1) base t n ov (t.size : Int) (i : Int) = some (r, e) ∧ okE e
 | 0, i, n, ov, h => by
  rw [arith_number.l0, if_neg (by omega)]
  split
  ·exact ⟨_, _, rfl, by unfold okE; simp⟩
  ·exact ⟨_, _, rfl, by unfold okE; simp⟩
 | d + 1, i, n, ov, h => by
  have hw : wrap64 ((i : Int) + 1) = ((i + 1 : Nat) : Int) := by rw [wrap_id (by omega) (by omega)]; omega
  have ih := fun n ov => num_loop base t hb hs d (i + 1) n ov (by omega)
  obtain ⟨v, hv⟩ := value_at d (bt t (i : Int))
  rw [arith_number.l0, if_pos (by omega), if_pos (by omega), if_pos (by omega), hv, hw]
  simp only [Option.bind_some]
  split
  ·exact ⟨_, _, rfl, by unfold okE; simp⟩
  ·split
   ·exact ih _ _
   ·split
    ·exact ih _ _
    ·exact ih _ _
theorem num_j1 (base : Int) (t : ByteArray) (hb : base ≠ 0) (hs : t.size ≤ 9223372036854775807) (k : Nat) (hk : t.size + 2 ≤ k) : ∃ r e, arith_number.j1 k base t = some (r, e) ∧ okE e := by
 obtain ⟨k, rfl⟩ : ∃ j, k = j + 1 := ⟨k - 1, by omega⟩
 rw [arith_number.j1]
 split
 ·exact ⟨_, _, rfl, by unfold okE; simp⟩
 ·obtain ⟨r, e, h, he⟩ := num_loop base t hb hs t.size 0 0 false (by omega)
  refine ⟨r, e, ?_, he⟩
  have up : ∀ n, t.size + 1 ≤ n → arith_number.l0 n base t 0 false (t.size : Int) ((0 : Nat) : Int) = some (r, e) := by
   intro n hn
   induction hn with
   | refl => exact h
   | step _ ih => exact (arith_number.mono_l _).2.1 _ _ _ _ _ _ _ ih
  exact up k (by omega)
theorem number_some (t : ByteArray) (h0 : t.size ≠ 0) (hs : t.size ≤ 9223372036854775807) : ∃ r e, arith_number.f (t.size + 3) t = some (r, e) ∧ okE e := by
 have hj : ∀ b, (b = true → 2 ≤ t.size) → ∃ r e, arith_number.j0 (t.size + 3) t 10 t b = some (r, e) ∧ okE e := by
  intro b hb
  rw [arith_number.j0]
  split
  ·rename_i h
   have h2 := hb h
   rw [if_pos (by omega)]
   refine num_j1 16 _ (by omega) ?_ _ ?_
   ·rw [ByteArray.size_extract]; omega
   ·rw [ByteArray.size_extract]; omega
  ·rw [if_pos (by omega)]
   split
   ·exact num_j1 8 t (by omega) hs _ (by omega)
   ·exact num_j1 10 t (by omega) hs _ (by omega)
 unfold arith_number.f
 split
 ·rw [if_pos (by omega)]
  split
  ·split
   ·exact hj _ (fun _ => by omega)
   ·exact hj _ (fun _ => by omega)
  ·exact hj _ (fun h => by cases h)
 ·exact hj _ (fun h => by cases h)
/-- A property of trees that the reader's steps keep. -/
structure Shut (Q : S26 → Prop) : Prop where
 num : ∀ t n, arith_number.f (t.size + 3) t = some (n, 0) → Q ⟨1, n, noName, []⟩
 var : ∀ t, nameB t = true → Q ⟨2, 0, t, []⟩
 un : ∀ t op y, arith_unary.f t = some op → op ≠ 0 → Q y → Q ⟨op, 0, noName, [y]⟩
 bin : ∀ t op (n : Nat) x y, arith_binary.f t = some (op, (n : Int)) → 1 ≤ n → Q x → Q y → Q ⟨op, 0, noName, [x, y]⟩
 cond : ∀ x y z, Q x → Q y → Q z → Q ⟨25, 0, noName, [x, y, z]⟩
 set : ∀ t op x y, arith_assignment.f 1 t = some (op, true) → x.f0 = 2 → Q x → Q y → Q ⟨26, op, x.f2, [y]⟩
def moreQ (Q : S26 → Prop) : Gl → Prop
 | .more _ x => Q x
 | _ => True
def less : Gl → Nat
 | .more _ _ => 0
 | _ => 1
theorem nx_less {L : List UInt8} (h : L ≠ []) : (nx L).length + 1 ≤ L.length := by
 have hp := lexN_pos h
 have hq := lexN_le L
 have : (nx L).length ≤ (L.drop (lexN L)).length := by
  unfold nx
  exact (List.dropWhile_sublist _).length_le
 rw [List.length_drop] at this
 omega
def Good (Q : S26 → Prop) (s : ByteArray) (d : Nat) (L : List UInt8) (r : PRes) : Prop :=
 match r with
 | none => True
 | some (.error (q, e)) => e = 6 ∨ e = 10 ∨ e = 14
 | some (.ok (x, p, t)) => ∃ M, At s p M ∧ t = tk M ∧ nb M ∧ M.length + d ≤ L.length ∧ Q x
theorem Good.bind {Q : S26 → Prop} {s d L d' L'} {a : PRes} {f : S26 → Nat → ByteArray → PRes} (h : Good Q s d L a) (hf : ∀ x p M, At s p M → nb M → M.length + d ≤ L.length → Q x → Good Q s d' L' (f x p (tk M))) : Good Q s d' L' (ebind a f) := by
 match a, h with
 | none, _ => exact True.intro
 | some (.ok (x, p, t)), h =>
  obtain ⟨M, h1, rfl, h2, h3, h4⟩ := h
  exact hf x p M h1 h2 h3 h4
 | some (.error (q, e)), h => exact h
theorem pr_good {Q : S26 → Prop} (hQ : Shut Q) {s : ByteArray} (hs : s.size ≤ 4096) : ∀ (k : Nat) (gl : Gl) (p : Nat) (L : List UInt8), okG gl → moreQ Q gl → At s p L → nb L → Good Q s (less gl) L (pr s k gl p (tk L)) := by
 intro k
 induction k with
 | zero => intro gl p L _ _ _ _; exact True.intro
 | succ k ih =>
  intro gl p L hg hm hA hb
  have nxt : ∀ {p L}, At s p L → At s (nextP s p (tk L)) (nx L) ∧ nextT s p (tk L) = tk (nx L) := fun h => next_list h
  have le_nx : ∀ L, (nx L).length ≤ L.length := fun L => (nx_suf L).length_le
  cases gl with
  | first =>
   simp only [pr]
   refine (ih .second p L trivial trivial hA hb).bind (fun x p1 M hA1 hb1 hl hx => ?_)
   rcases ha : arith_assignment.f 1 (tk M) with _ | ⟨op, is⟩
   ·exact True.intro
   ·simp only
    split
    ·rename_i hc
     obtain ⟨e1, e2⟩ := nxt hA1
     rw [e2]
     refine (ih .first _ _ trivial trivial e1 (nb_nx M)).bind (fun y p2 M2 hA2 hb2 hl2 hy => ?_)
     refine ⟨M2, hA2, rfl, hb2, ?_, hQ.set _ _ _ _ (by rw [ha, hc.1]) hc.2.1 hx hy⟩
     have := le_nx M
     simp only [less] at *
     omega
    ·exact ⟨M, hA1, rfl, hb1, hl, hx⟩
  | second =>
   simp only [pr]
   refine (ih (.level 3) p L (by simp [okG]) trivial hA hb).bind (fun x p1 M hA1 hb1 hl hx => ?_)
   split
   ·obtain ⟨e1, e2⟩ := nxt hA1
    rw [e2]
    refine (ih .first _ _ trivial trivial e1 (nb_nx M)).bind (fun y p2 M2 hA2 hb2 hl2 hy => ?_)
    split
    ·obtain ⟨e3, e4⟩ := nxt hA2
     rw [e4]
     refine (ih .second _ _ trivial trivial e3 (nb_nx M2)).bind (fun z p3 M3 hA3 hb3 hl3 hz => ?_)
     refine ⟨M3, hA3, rfl, hb3, ?_, hQ.cond _ _ _ hx hy hz⟩
     have := le_nx M
     have := le_nx M2
     simp only [less] at *
     omega
    ·exact .inl rfl
   ·exact ⟨M, hA1, rfl, hb1, hl, hx⟩
  | level n =>
   simp only [pr]
   split
   ·exact ih .operand p L trivial trivial hA hb
   ·refine (ih (.level (n + 1)) p L (by simp [okG]) trivial hA hb).bind (fun x p1 M hA1 hb1 hl hx => ?_)
    have h := ih (.more n x) p1 M hg hx hA1 hb1
    revert h
    cases pr s k (.more n x) p1 (tk M) with
    | none => exact fun _ => True.intro
    | some r =>
     match r with
     | .error (q, e) => exact fun h => h
     | .ok (y, q, t) =>
      intro h
      obtain ⟨M2, h1, h2, h3, h4, h5⟩ := h
      refine ⟨M2, h1, h2, h3, ?_, h5⟩
      simp only [less] at *
      omega
  | more n x =>
   simp only [pr]
   rcases ha : arith_binary.f (tk L) with _ | ⟨op, l⟩
   ·exact True.intro
   ·simp only
    split
    ·rename_i hc
     obtain ⟨e1, e2⟩ := nxt hA
     rw [e2]
     refine (ih (.level (n + 1)) _ _ (by simp [okG]) trivial e1 (nb_nx L)).bind (fun y p1 M hA1 hb1 hl hy => ?_)
     have h := ih (.more n ⟨op, 0, noName, [x, y]⟩) p1 M hg (hQ.bin _ _ n _ _ (by rw [ha, hc]) hg hm hy) hA1 hb1
     revert h
     cases pr s k (.more n ⟨op, 0, noName, [x, y]⟩) p1 (tk M) with
     | none => exact fun _ => True.intro
     | some r =>
      match r with
      | .error (q, e) => exact fun h => h
      | .ok (y, q, t) =>
       intro h
       obtain ⟨M2, h1, h2, h3, h4, h5⟩ := h
       have := le_nx L
       refine ⟨M2, h1, h2, h3, ?_, h5⟩
       simp only [less] at *
       omega
    ·exact ⟨L, hA, rfl, hb, by simp [less], hm⟩
  | operand =>
   simp only [pr]
   obtain ⟨e1, e2⟩ := nxt hA
   rw [e2]
   rcases Classical.em (L = []) with rfl | hL
   ·have h0 : tk [] = ⟨#[]⟩ := tkNil
    rw [h0, un0]
    simp only
    rw [if_neg (by simp), if_neg (by rw [Go.ByteArray.toList_eq]; simp), if_pos (.inl rfl)]
    exact .inl rfl
   ·have hlt := nx_less hL
    rcases ha : arith_unary.f (tk L) with _ | op
    ·exact True.intro
    ·simp only
     split
     ·rename_i hop
      refine (ih .operand _ _ trivial trivial e1 (nb_nx L)).bind (fun y p1 M hA1 hb1 hl hy => ⟨M, hA1, rfl, hb1, ?_, hQ.un _ _ _ ha hop hy⟩)
      simp only [less] at *
      omega
     ·split
      ·refine (ih .first _ _ trivial trivial e1 (nb_nx L)).bind (fun y p1 M hA1 hb1 hl hy => ?_)
       split
       ·obtain ⟨e3, e4⟩ := nxt hA1
        have := le_nx M
        refine ⟨nx M, e3, e4, nb_nx M, ?_, hy⟩
        simp only [less] at *
        omega
       ·exact .inl rfl
      ·split
       ·exact .inl rfl
       ·rename_i hw
        split
        ·rcases hn : arith_number.f ((tk L).size + 3) (tk L) with _ | ⟨n, e⟩
         ·exact True.intro
         ·simp only
          split
          ·rename_i he
           refine ⟨nx L, e1, rfl, nb_nx L, ?_, hQ.num _ _ (by rw [hn, he])⟩
           simp only [less]
           omega
          ·rename_i he
           have hsz : (tk L).size ≤ 9223372036854775807 := by
            have h1 := lexN_le L
            have h2 := hA.len
            rw [tk_size]
            omega
           obtain ⟨r, e', h1, h2⟩ := number_some (tk L) (fun h => hw (.inl h)) hsz
           rw [hn] at h1
           simp only [Option.some.injEq, Prod.mk.injEq] at h1
           obtain ⟨rfl, rfl⟩ := h1
           rcases h2 with h2 | h2 | h2
           ·exact absurd h2 he
           ·exact .inl h2
           ·exact .inr (.inr h2)
        ·split
         ·rename_i hn
          refine ⟨nx L, e1, rfl, nb_nx L, ?_, hQ.var _ hn⟩
          simp only [less]
          omega
         ·exact .inr (.inl rfl)
end Go.Proofs.YtglmdfddgmkmaaaDoor.Q
end
section
namespace Go.Proofs.YtglmdfddgmkmaaaDoor.Q
open Go.RowKit Go.Proofs.YtglmdfddgmkmaaaDoorW.PrintWords
set_option linter.unusedVariables false
set_option linter.unusedSimpArgs false
def rk : Gl → Nat
 | .more _ _ => 0
 | .operand => 1
 | .level n => 2 + (13 - n)
 | .second => 17
 | .first => 18
def okG2 : Gl → Prop
 | .level n => 1 ≤ n ∧ n ≤ 13
 | .more n _ => 1 ≤ n ∧ n ≤ 12
 | _ => True
theorem okG_of {gl : Gl} (h : okG2 gl) : okG gl := by
 cases gl <;> simp [okG, okG2] at * <;> omega
/-- Any tree. -/
theorem shut_any : Shut (fun _ => True) := ⟨fun _ _ _ => trivial, fun _ _ => trivial, fun _ _ _ _ _ _ => trivial, fun _ _ _ _ _ _ _ _ _ => trivial, fun _ _ _ _ _ _ => trivial, fun _ _ _ _ _ _ _ _ => trivial⟩
theorem more_any (gl : Gl) : moreQ (fun _ => True) gl := by cases gl <;> trivial
theorem tot_bind {a : PRes} {f : S26 → Nat → ByteArray → PRes} (h : a ≠ none) (hf : ∀ x p t, a = some (.ok (x, p, t)) → f x p t ≠ none) : ebind a f ≠ none := by
 match a, h with
 | some (.ok (x, p, t)), _ => exact hf x p t rfl
 | some (.error e), _ => simp [ebind]
theorem pr_total {s : ByteArray} (hs : s.size ≤ 4096) : ∀ (k : Nat) (gl : Gl) (p : Nat) (L : List UInt8), okG2 gl → At s p L → nb L → 32 * L.length + rk gl < k → pr s k gl p (tk L) ≠ none := by
 intro k
 induction k with
 | zero => intro gl p L _ _ _ h; omega
 | succ k ih =>
  intro gl p L hg hA hb hk
  have good := fun gl p L (h : okG2 gl) hA hb => pr_good shut_any hs k gl p L (okG_of h) (more_any gl) hA hb
  have nxt : ∀ {p L}, At s p L → At s (nextP s p (tk L)) (nx L) ∧ nextT s p (tk L) = tk (nx L) := fun h => next_list h
  have le_nx : ∀ L, (nx L).length ≤ L.length := fun L => (nx_suf L).length_le
  have sz : ∀ {p L}, At s p L → (tk L).size ≤ 9223372036854775807 := by
   intro p L h
   have h1 := lexN_le L
   have h2 := h.len
   rw [tk_size]
   omega
  cases gl with
  | first =>
   simp only [pr]
   refine tot_bind (ih .second p L trivial hA hb (by simp [rk] at *; omega)) (fun x p1 t1 h1 => ?_)
   have hG := good .second p L trivial hA hb
   rw [h1] at hG
   obtain ⟨M, hA1, rfl, hb1, hl, _⟩ := hG
   obtain ⟨op, is, ha⟩ := assignment_some (tk M) (sz hA1)
   rw [ha]
   simp only
   split
   ·obtain ⟨e1, e2⟩ := nxt hA1
    rw [e2]
    have := le_nx M
    refine tot_bind (ih .first _ _ trivial e1 (nb_nx M) (by simp [rk, less] at *; omega)) (fun y p2 t2 h2 => by simp)
   ·simp
  | second =>
   simp only [pr]
   refine tot_bind (ih (.level 3) p L (by simp [okG2]) hA hb (by simp [rk] at *; omega)) (fun x p1 t1 h1 => ?_)
   have hG := good (.level 3) p L (by simp [okG2]) hA hb
   rw [h1] at hG
   obtain ⟨M, hA1, rfl, hb1, hl, _⟩ := hG
   split
   ·obtain ⟨e1, e2⟩ := nxt hA1
    rw [e2]
    have := le_nx M
    refine tot_bind (ih .first _ _ trivial e1 (nb_nx M) (by simp [rk, less] at *; omega)) (fun y p2 t2 h2 => ?_)
    have hG := good .first _ _ trivial e1 (nb_nx M)
    rw [h2] at hG
    obtain ⟨M2, hA2, rfl, hb2, hl2, _⟩ := hG
    split
    ·obtain ⟨e3, e4⟩ := nxt hA2
     rw [e4]
     have := le_nx M2
     refine tot_bind (ih .second _ _ trivial e3 (nb_nx M2) (by simp [rk, less] at *; omega)) (fun z p3 t3 h3 => by simp)
    ·simp
   ·simp
  | level n =>
   simp only [pr]
   have hg1 : 1 ≤ n ∧ n ≤ 13 := hg
   split
   ·exact ih .operand p L trivial hA hb (by simp [rk] at *; omega)
   ·have hg2 : okG2 (.level (n + 1)) := by simp [okG2]; omega
    refine tot_bind (ih (.level (n + 1)) p L hg2 hA hb (by simp [rk] at *; omega)) (fun x p1 t1 h1 => ?_)
    have hG := good (.level (n + 1)) p L hg2 hA hb
    rw [h1] at hG
    obtain ⟨M, hA1, rfl, hb1, hl, _⟩ := hG
    exact ih (.more n x) p1 M (by simp [okG2]; omega) hA1 hb1 (by simp [rk, less] at *; omega)
  | more n x =>
   simp only [pr]
   have hg1 : 1 ≤ n ∧ n ≤ 12 := hg
   obtain ⟨op, l, ha⟩ := binary_some (tk L)
   rw [ha]
   simp only
   split
   ·rename_i hc
    have hL : L ≠ [] := by
     rintro rfl
     rw [tkNil, bi0] at ha
     simp only [Option.some.injEq, Prod.mk.injEq] at ha
     omega
    obtain ⟨e1, e2⟩ := nxt hA
    rw [e2]
    have := nx_less hL
    have hg2 : okG2 (.level (n + 1)) := by simp [okG2]; omega
    refine tot_bind (ih (.level (n + 1)) _ _ hg2 e1 (nb_nx L) (by simp [rk] at *; omega)) (fun y p1 t1 h1 => ?_)
    have hG := good (.level (n + 1)) _ _ hg2 e1 (nb_nx L)
    rw [h1] at hG
    obtain ⟨M, hA1, rfl, hb1, hl, _⟩ := hG
    exact ih (.more n _) p1 M hg hA1 hb1 (by simp [rk, less] at *; omega)
   ·simp
  | operand =>
   simp only [pr]
   obtain ⟨e1, e2⟩ := nxt hA
   rw [e2]
   rcases Classical.em (L = []) with rfl | hL
   ·have h0 : tk [] = ⟨#[]⟩ := tkNil
    rw [h0, un0]
    simp only
    rw [if_neg (by simp), if_neg (by rw [Go.ByteArray.toList_eq]; simp), if_pos (.inl rfl)]
    simp
   ·have hlt := nx_less hL
    obtain ⟨op, ha⟩ := unary_some (tk L)
    rw [ha]
    simp only
    split
    ·refine tot_bind (ih .operand _ _ trivial e1 (nb_nx L) (by simp [rk] at *; omega)) (fun y p1 t1 h1 => by simp)
    ·split
     ·refine tot_bind (ih .first _ _ trivial e1 (nb_nx L) (by simp [rk] at *; omega)) (fun y p1 t1 h1 => ?_)
      split
      ·simp
      ·simp
     ·split
      ·simp
      ·rename_i hw
       split
       ·obtain ⟨n, e, hn, _⟩ := number_some (tk L) (fun h => hw (.inl h)) (sz hA)
        rw [hn]
        simp only
        split
        ·simp
        ·simp
       ·split
        ·simp
        ·simp
inductive W3 : S26 → Prop where
 | mk (x : S26) : x.f3.length ≤ 3 → (∀ y ∈ x.f3, W3 y) → W3 x
theorem shut_W3 : Shut W3 where
 num := fun _ _ _ => .mk _ (Nat.zero_le _) (fun y h => by cases h)
 var := fun _ _ => .mk _ (Nat.zero_le _) (fun y h => by cases h)
 un := fun _ _ y _ _ h => .mk _ (by simp) (fun z hz => by simp at hz; exact hz ▸ h)
 bin := fun _ _ _ x y _ _ h1 h2 => .mk _ (by simp) (fun z hz => by simp at hz; rcases hz with rfl | rfl; exact h1; exact h2)
 cond := fun x y z h1 h2 h3 => .mk _ (by simp) (fun w hw => by simp at hw; rcases hw with rfl | rfl | rfl; exact h1; exact h2; exact h3)
 set := fun _ _ x y _ _ _ h => .mk _ (by simp) (fun z hz => by simp at hz; exact hz ▸ h)
theorem common {P : Nat → S26 → Prop} (up : ∀ k y, P k y → P (k + 1) y) : ∀ (l : List S26), (∀ y ∈ l, ∃ k, P k y) → ∃ K, ∀ k, K ≤ k → ∀ y ∈ l, P k y
 | [], _ => ⟨0, fun k _ y h => by cases h⟩
 | a :: l, h => by
  obtain ⟨K, hK⟩ := common up l (fun y hy => h y (List.mem_cons_of_mem _ hy))
  obtain ⟨j, hj⟩ := h a (List.mem_cons_self ..)
  have ups : ∀ n, j ≤ n → P n a := by
   intro n hn
   induction hn with
   | refl => exact hj
   | step _ ih => exact up _ _ ih
  refine ⟨K + j, fun k hk y hy => ?_⟩
  rcases List.mem_cons.mp hy with rfl | hy
  ·exact ups k (by omega)
  ·exact hK k (by omega) y hy
theorem rd_mem {xs : List S26} {i : Nat} (h : i < xs.length) : rd_T26 xs (i : Int) ∈ xs := by
 have : rd_T26 xs (i : Int) = xs[i] := by simp [rd_T26, List.getD_eq_getElem?_getD, h]
 rw [this]
 exact List.getElem_mem h
theorem levels_some {x : S26} (h : W3 x) : ∃ k n, arith_levels.f k x.f0 x.f1 x.f2 x.f3 = some n := by
 induction h with
 | mk x hl _ ih =>
  obtain ⟨K, hK⟩ := common (P := fun k y => ∃ n, arith_levels.f k y.f0 y.f1 y.f2 y.f3 = some n) (fun k y ⟨n, h⟩ => ⟨n, arith_levels.mono _ _ _ _ _ _ h⟩) x.f3 ih
  have loop : ∀ (d i : Nat) (a : Int), i + d = x.f3.length → ∃ n, arith_levels.l0 (K + d + 1) a x.f3 (x.f3.length : Int) (i : Int) = some n := by
   intro d
   induction d with
   | zero =>
    intro i a hi
    rw [arith_levels.l0, if_neg (by omega)]
    exact ⟨_, rfl⟩
   | succ d ihd =>
    intro i a hi
    obtain ⟨n, hn⟩ := hK (K + (d + 1)) (by omega) (rd_T26 x.f3 (i : Int)) (rd_mem (by omega))
    rw [arith_levels.l0, if_pos (by omega), if_pos (by omega), if_pos (by omega), hn, Option.bind_some]
    have hw : wrap64 ((i : Int) + 1) = ((i + 1 : Nat) : Int) := by rw [wrap_id (by omega) (by omega)]; omega
    rw [hw, show K + (d + 1) = K + d + 1 by omega]
    exact ihd (i + 1) _ (by omega)
  obtain ⟨n, hn⟩ := loop x.f3.length 0 0 (by omega)
  rw [show ((0 : Nat) : Int) = 0 from rfl] at hn
  exact ⟨K + x.f3.length + 1 + 1, n, by rw [arith_levels.f]; exact hn⟩
theorem same_self {x : S26} (h : W3 x) : ∃ K, ∀ k, K ≤ k → jobshellref05_Same.f k x.f0 x.f1 x.f2 x.f3 x.f0 x.f1 x.f2 x.f3 = some true := by
 have up : ∀ {x y : S26} {k n b}, k ≤ n → jobshellref05_Same.f k x.f0 x.f1 x.f2 x.f3 y.f0 y.f1 y.f2 y.f3 = some b → jobshellref05_Same.f n x.f0 x.f1 x.f2 x.f3 y.f0 y.f1 y.f2 y.f3 = some b := by
  intro x y k n b hk h
  induction hk with
  | refl => exact h
  | step _ ih => exact jobshellref05_Same.mono _ _ _ _ _ _ _ _ _ _ ih
 suffices h : ∃ K, jobshellref05_Same.f K x.f0 x.f1 x.f2 x.f3 x.f0 x.f1 x.f2 x.f3 = some true by
  obtain ⟨K, hK⟩ := h
  exact ⟨K, fun k hk => up hk hK⟩
 induction h with
 | mk x hl _ ih =>
  obtain ⟨K, hK⟩ := common (P := fun k y => jobshellref05_Same.f k y.f0 y.f1 y.f2 y.f3 y.f0 y.f1 y.f2 y.f3 = some true) (fun k y h => up (Nat.le_succ k) h) x.f3 ih
  have loop : ∀ (d i : Nat), i + d = x.f3.length → jobshellref05_Same.l0 (K + d + 1) (i : Int) x.f0 x.f1 x.f2 x.f3 x.f0 x.f1 x.f2 x.f3 = some true := by
   intro d
   induction d with
   | zero =>
    intro i hi
    rw [jobshellref05_Same.l0, if_neg (by omega)]
   | succ d ihd =>
    intro i hi
    have hn := hK (K + (d + 1)) (by omega) (rd_T26 x.f3 (i : Int)) (rd_mem (by omega))
    rw [jobshellref05_Same.l0, if_pos (by omega), if_pos (by omega), if_pos (by omega), hn, Option.bind_some]
    have hw : wrap64 ((i : Int) + 1) = ((i + 1 : Nat) : Int) := by rw [wrap_id (by omega) (by omega)]; omega
    rw [hw, if_pos rfl, show K + (d + 1) = K + d + 1 by omega]
    exact ihd (i + 1) (by omega)
  refine ⟨K + x.f3.length + 1 + 1 + 1, ?_⟩
  rw [jobshellref05_Same.f, if_pos rfl, if_pos rfl, if_pos rfl, jobshellref05_Same.j0, if_neg (by simp)]
  have hn := loop x.f3.length 0 (by omega)
  rw [show ((0 : Nat) : Int) = 0 from rfl] at hn
  exact hn
end Go.Proofs.YtglmdfddgmkmaaaDoor.Q
end
section
namespace Go.Proofs.YtglmdfddgmkmaaaDoor.Q
open Go.RowKit Go.Proofs.YtglmdfddgmkmaaaDoorW.PrintWords
set_option linter.unusedVariables false
set_option linter.unusedSimpArgs false
section
variable {s : ByteArray}
theorem Eerr.level {n L e} (hn : n ≤ 13) (h : E s .operand L (.error e)) : E s (.level n) L (.error e) := by
 obtain ⟨d, hd⟩ : ∃ d, n + d = 13 := ⟨13 - n, by omega⟩
 clear hn
 induction d generalizing n with
 | zero =>
  obtain rfl : n = 13 := by omega
  exact h.level13
 | succ d ih =>
  obtain ⟨k, hk⟩ := ih (n := n + 1) (by omega)
  refine ⟨k + 1, ?_⟩
  rw [pr, if_neg (by omega), hk]
  rfl
theorem Eerr.first {L e} (h : E s .operand L (.error e)) : E s .first L (.error e) := by
 obtain ⟨k, hk⟩ := Eerr.level (n := 3) (by omega) h
 refine ⟨k + 2, ?_⟩
 rw [pr, pr, hk]
 rfl
/-- "(" and what stands behind it. -/
theorem E.paren_err {L e} (hL : L <:+ sl s) (h : arith_unary.f (tk L) = some 0) (hp : (tk L).toList = [40]) (h1 : E s .first (nx L) (.error e)) : E s .operand L (.error e) := by
 obtain ⟨k, hk⟩ := h1
 obtain ⟨e1, e2⟩ := next_pl hL
 refine ⟨k + 1, ?_⟩
 rw [pr, h]
 simp only
 rw [if_neg (by simp), if_pos hp, e1, e2, hk]
 rfl
theorem E.paren_no {L y p t} (hL : L <:+ sl s) (h : arith_unary.f (tk L) = some 0) (hp : (tk L).toList = [40]) (h1 : E s .first (nx L) (.ok (y, p, t))) (hc : ¬ t.toList = [41]) : E s .operand L (.error (p, 6)) := by
 obtain ⟨k, hk⟩ := h1
 obtain ⟨e1, e2⟩ := next_pl hL
 refine ⟨k + 1, ?_⟩
 rw [pr, h]
 simp only
 rw [if_neg (by simp), if_pos hp, e1, e2, hk]
 show (if t.toList = [41] then _ else _) = _
 rw [if_neg hc]
end
theorem start_list (s : ByteArray) : At s (nextP s 0 ⟨#[]⟩) (Vb (sl s)) ∧ nextT s 0 ⟨#[]⟩ = tk (Vb (sl s)) := by
 have h0 : At s 0 (sl s) := ⟨Nat.zero_le _, rfl⟩
 have h2 : At s (nextP s 0 ⟨#[]⟩) (Vb (sl s)) := by
  unfold nextP
  rw [show 0 + (⟨#[]⟩ : ByteArray).size = 0 from rfl, skipB_list s 0 (Nat.zero_le _), List.drop_zero]
  exact At.adv (A := (sl s).takeWhile blkB) (B := Vb (sl s)) (by rw [List.takeWhile_append_dropWhile]; exact h0)
 refine ⟨h2, ?_⟩
 unfold nextT
 rw [tokN_list]
 have e : s.extract (nextP s 0 ⟨#[]⟩) s.size = ⟨(Vb (sl s)).toArray⟩ := by
  rw [extract_list, h2.2]
  have := h2.len
  rw [List.take_of_length_le (by omega)]
 rw [e, extract_list]
 simp only [sl, List.drop_zero, Nat.sub_zero]
 rfl
theorem nb_Vb (L : List UInt8) : nb (Vb L) := nb_dropWhile L
theorem pl_of {s p L} (h : At s p L) : p = pl s L := by
 have := h.len
 unfold pl
 omega
/-- What Parse tells, once the reader has ended. -/
def told (k : Nat) : Except (Nat × Int) (S26 × Nat × ByteArray) → Option PR
 | .error (p, er) => some (0, 0, ⟨#[]⟩, [], (p : Int), er)
 | .ok (x, p, t) => if ¬ t.toList = [] then some (0, 0, ⟨#[]⟩, [], (p : Int), 6) else
  match arith_levels.f k x.f0 x.f1 x.f2 x.f3 with
  | none => none
  | some n => if 32 < n then some (0, 0, ⟨#[]⟩, [], 0, 5) else some (x.f0, x.f1, x.f2, x.f3, 0, 0)
theorem told_more (k : Nat) (x : S26) (p : Nat) (t : ByteArray) (h : ¬ t.toList = []) : told k (.ok (x, p, t)) = some (0, 0, ⟨#[]⟩, [], (p : Int), 6) := by
 unfold told
 simp only
 rw [if_pos h]
theorem told_deep (k : Nat) (x : S26) (p : Nat) (t : ByteArray) (h : t.toList = []) {n : Int} (hl : arith_levels.f k x.f0 x.f1 x.f2 x.f3 = some n) (hn : 32 < n) : told k (.ok (x, p, t)) = some (0, 0, ⟨#[]⟩, [], 0, 5) := by
 unfold told
 simp only
 rw [if_neg (by simp [h]), hl]
 simp only
 rw [if_pos hn]
theorem told_right (k : Nat) (x : S26) (p : Nat) (t : ByteArray) (h : t.toList = []) {n : Int} (hl : arith_levels.f k x.f0 x.f1 x.f2 x.f3 = some n) (hn : ¬ 32 < n) : told k (.ok (x, p, t)) = some (x.f0, x.f1, x.f2, x.f3, 0, 0) := by
 unfold told
 simp only
 rw [if_neg (by simp [h]), hl]
 simp only
 rw [if_neg hn]
theorem parse_pr {s : ByteArray} (hs : s.size ≤ 4096) (h0 : Vb (sl s) ≠ []) {r} (h : E s .first (Vb (sl s)) r) : ∃ K, ∀ k, K ≤ k → parseP s k = told k r := by
 obtain ⟨K, hK⟩ := h
 obtain ⟨h1, h2⟩ := start_list s
 refine ⟨K, fun k hk => ?_⟩
 unfold parseP
 have ht : ¬ (nextT s 0 ⟨#[]⟩).toList = [] := by
  rw [h2, Go.ByteArray.toList_eq]
  intro e
  have h3 := tk_size (Vb (sl s))
  have h4 := lexN_pos h0
  have : (tk (Vb (sl s))).size = 0 := by
   show (tk (Vb (sl s))).data.toList.length = 0
   rw [e]
   rfl
  omega
 rw [if_neg (by omega), if_neg ht, h2, pl_of h1, pr_up s hk hK]
 match r with
 | .error (p, er) => rfl
 | .ok (x, p, t) => rfl
/-- Whatever the text, the reader ends. -/
theorem first_ends {s : ByteArray} (hs : s.size ≤ 4096) : ∃ r, E s .first (Vb (sl s)) r ∧ Good W3 s 1 (Vb (sl s)) (some r) := by
 obtain ⟨h1, h2⟩ := start_list s
 have ht := pr_total hs (32 * (Vb (sl s)).length + 19) .first _ _ trivial h1 (nb_Vb _) (by simp [rk])
 have hg := pr_good shut_W3 hs (32 * (Vb (sl s)).length + 19) .first _ _ trivial trivial h1 (nb_Vb _)
 revert ht hg
 rw [pl_of h1]
 cases hr : pr s (32 * (Vb (sl s)).length + 19) .first (pl s (Vb (sl s))) (tk (Vb (sl s))) with
 | none => intro h; exact absurd rfl h
 | some r => intro _ hg; exact ⟨r, ⟨_, hr⟩, hg⟩
theorem levels_up {x : S26} {k n r} (h : k ≤ n) (hr : arith_levels.f k x.f0 x.f1 x.f2 x.f3 = some r) : arith_levels.f n x.f0 x.f1 x.f2 x.f3 = some r := arith_levels.up x h hr
end Go.Proofs.YtglmdfddgmkmaaaDoor.Q
end
section
namespace Go.Proofs.YtglmdfddgmkmaaaDoor.Q
open Go.RowKit Go.Proofs.YtglmdfddgmkmaaaDoorW.PrintWords
set_option linter.unusedVariables false
set_option linter.unusedSimpArgs false
theorem awake_60 (k : Nat) (hk : 60 ≤ k) : jobshelllaw05_awake.f k = some true := awake_up 60 k true awake_eval hk
theorem blank_loop (s : ByteArray) (hs : s.size ≤ 120) : ∀ (d i k : Nat), i + d = s.size → d + 1 ≤ k → ∃ b, jobshelllaw05_blank.l0 k s (i : Int) = some b ∧ (b = false → Vb ((sl s).drop i) ≠ [])
 | 0, i, k, h, hk => by
  obtain ⟨k, rfl⟩ : ∃ j, k = j + 1 := ⟨k - 1, by omega⟩
  rw [jobshelllaw05_blank.l0, if_neg (by omega)]
  exact ⟨true, rfl, by simp⟩
 | d + 1, i, k, h, hk => by
  obtain ⟨k, rfl⟩ : ∃ j, k = j + 1 := ⟨k - 1, by omega⟩
  obtain ⟨c, hc, hv⟩ := drop_cons s i (by omega)
  have hw : wrap64 ((i : Int) + 1) = ((i + 1 : Nat) : Int) := by rw [wrap_id (by omega) (by omega)]; omega
  obtain ⟨b, hb, hb2⟩ := blank_loop s hs d (i + 1) k (by omega) (by omega)
  rw [jobshelllaw05_blank.l0, if_pos (by omega), if_pos (by omega), hw, hv, hc]
  by_cases hbl : blkB c = true
  ·have e : Vb (c :: (sl s).drop (i + 1)) = Vb ((sl s).drop (i + 1)) := by
    show List.dropWhile blkB _ = _
    rw [List.dropWhile_cons, if_pos hbl]
   rw [e]
   refine ⟨b, ?_, hb2⟩
   rw [blk_iff] at hbl
   rcases hbl with h1 | h1 | h1
   ·rw [if_neg (by omega), if_neg (by omega), if_pos (by omega), hb]
   ·rw [if_pos (by omega), hb]
   ·rw [if_neg (by omega), if_pos (by omega), hb]
  ·have e : Vb (c :: (sl s).drop (i + 1)) = c :: (sl s).drop (i + 1) := Vb_good (by simpa using hbl)
   rw [e]
   rw [blk_iff] at hbl
   refine ⟨false, ?_, fun _ => by simp⟩
   rw [if_neg (by omega), if_neg (by omega), if_neg (by omega)]
theorem parens_j0 (k : Nat) (s : ByteArray) (hs : s.size ≤ 120) {a1 a2 : Int} {a3 : ByteArray} {a4 : List S26} {at_ e : Int} {b1 b2 : Int} {b3 : ByteArray} {b4 : List S26} {at' e' : Int}
 (hA : parseP s k = some (a1, a2, a3, a4, at_, e)) (hB : parseP (((⟨#[40]⟩ : ByteArray) ++ s) ++ (⟨#[41]⟩ : ByteArray)) k = some (b1, b2, b3, b4, at', e')) :
 jobshelllaw05_ArithParens.j0 (k + 1) s false = if e = 0 then jobshelllaw05_ArithParens.j1 k s at_ e at' e' true a1 a2 a3 a4 b1 b2 b3 b4 else jobshelllaw05_ArithParens.j1 k s at_ e at' e' (e == 5) a1 a2 a3 a4 b1 b2 b3 b4 := by
 have h1 : ((⟨#[40]⟩ : ByteArray) ++ s).size = 1 + s.size := by rw [ByteArray.size_append]; rfl
 rw [jobshelllaw05_ArithParens.j0, if_neg (by simp), arith_Parse.f, hA, Option.bind_some, if_pos (by omega), if_pos (by omega), arith_Parse.f, hB, Option.bind_some]
/-- Both right: the same tree. -/
theorem parens_same (k : Nat) (hk : 61 ≤ k) (s : ByteArray) (i e : Int) {x y z w : _} {x' y' z' w' : _} (h : jobshellref05_Same.f k x y z w x' y' z' w' = some true) : jobshelllaw05_ArithParens.j1 (k + 1) s i e 0 e true x y z w x' y' z' w' = some true := by
 have up : jobshelllaw05_awake.f k = some true := awake_60 k (by omega)
 rw [jobshelllaw05_ArithParens.j1, if_pos rfl, if_pos rfl, if_pos rfl, h, Option.bind_some, if_pos rfl, up, Option.bind_some]
/-- Both wrong. -/
theorem parens_err (k : Nat) (hk : 61 ≤ k) (s : ByteArray) (hs : s.size ≤ 120) (q : Nat) (e at' e' : Int) (hq : q ≤ s.size) (he : ¬ e = 5) {x y z w : _} {x' y' z' w' : _} (h1 : q = s.size → e' = 6 ∧ (s.size : Int) < at') (h2 : q < s.size → ¬ bt s (q : Int) = 41 → at' = (q : Int) + 1 ∧ e' = e) : jobshelllaw05_ArithParens.j1 (k + 2) s (q : Int) e at' e' (e == 5) x y z w x' y' z' w' = some true := by
 have up : jobshelllaw05_awake.f k = some true := awake_60 k (by omega)
 have hb : (e == 5) = false := by simpa using he
 have hd : decide ((q : Int) > (s.size : Int)) = false := by simp; omega
 rw [hb, jobshelllaw05_ArithParens.j1, if_neg (by simp), if_neg (by omega), hd, jobshelllaw05_ArithParens.j2, if_neg (by simp)]
 by_cases hq2 : q = s.size
 ·obtain ⟨h3, h4⟩ := h1 hq2
  rw [if_pos (by omega), if_pos h3, if_pos (by omega), up, Option.bind_some]
 ·rw [if_neg (by omega), if_pos (by omega), if_pos (by omega)]
  by_cases hc : bt s (q : Int) = 41
  ·rw [if_pos hc, up, Option.bind_some]
  ·obtain ⟨h3, h4⟩ := h2 (by omega) hc
   rw [if_neg hc, if_pos (by rw [h3, wrap_id (by omega) (by omega)]), if_pos h4, up, Option.bind_some]
/-- A token that begins with another byte than ')' is not ')'. -/
theorem tk_ne {s : ByteArray} {p : Nat} {L : List UInt8} (hA : At s p L) (hL : L ≠ []) (h : ¬ bt s (p : Int) = 41) : ¬ (tk L).toList = [41] := by
 intro e
 rw [Go.ByteArray.toList_eq] at e
 have hl := hA.len
 have h0 := List.length_pos_iff.mpr hL
 obtain ⟨c, hc, hv⟩ := drop_cons s p (by omega)
 rw [hA.2] at hc
 have e' : L.take (lexN L) = [41] := e
 rw [hc] at e'
 obtain ⟨n, hn⟩ : ∃ n, lexN (c :: (sl s).drop (p + 1)) = n + 1 := ⟨lexN (c :: (sl s).drop (p + 1)) - 1, by have := lexN_pos (L := c :: (sl s).drop (p + 1)) (by simp); omega⟩
 rw [hn, List.take_succ_cons] at e'
 simp only [List.cons.injEq] at e'
 rw [e'.1] at hv
 exact h hv
theorem parens_plain (s : ByteArray) (hs : s.size ≤ 120) (hL0 : Vb (sl s) ≠ []) : ∃ K, ∀ k, K ≤ k → jobshelllaw05_ArithParens.j0 k s false = some true := by
 have h4 : s.size ≤ 4096 := by omega
 let s' : ByteArray := ((⟨#[40]⟩ : ByteArray) ++ s) ++ (⟨#[41]⟩ : ByteArray)
 have hs' : sl s' = 40 :: (sl s ++ [41]) := by
  show (((⟨#[40]⟩ : ByteArray) ++ s) ++ (⟨#[41]⟩ : ByteArray)).data.toList = _
  simp [ByteArray.data_append]
 have hz : s'.size = s.size + 2 := size' hs'
 have h4' : s'.size ≤ 4096 := by omega
 have hV' : Vb (sl s') = sl s' := by rw [hs']; exact Vb_good rfl
 have hV0 : Vb (sl s') ≠ [] := by rw [hV', hs']; simp
 obtain ⟨r, ⟨k0, hk0⟩, hG⟩ := first_ends h4
 obtain ⟨r', hr', hG'⟩ := first_ends h4'
 obtain ⟨hA0, _⟩ := start_list s
 have hb0 := nb_Vb (sl s)
 have hp0 := pl_of hA0
 rw [hp0] at hA0
 have hsim := sim hs' k0 .first _ _ trivial hA0 hb0 (fun h => h.elim)
 rw [hk0] at hsim
 have hA1 := at' hs' hA0
 have hp1 : pl s (Vb (sl s)) + 1 = pl s' (Vb (sl s) ++ [41]) := pl_of hA1
 rw [hp1] at hsim
 have suf' : sl s' <:+ sl s' := List.suffix_refl _
 have ht' : tk (sl s') = ⟨#[40]⟩ ∧ nx (sl s') = Vb (sl s) ++ [41] := by
  rw [hs']
  obtain ⟨e1, e2⟩ := one (c := 40) (rest := sl s ++ [41]) rfl (by decide)
  exact ⟨e1, e2.trans (dropWhile_snoc blk41 _)⟩
 have hun : arith_unary.f (tk (sl s')) = some 0 := by rw [ht'.1]; kernel_rfl
 have h40 : (tk (sl s')).toList = [40] := by rw [ht'.1, Go.ByteArray.toList_eq]
 -- how an error, once found in the longer text, is told
 have tell : ∀ q e, E s' .operand (sl s') (.error (q, e)) → ∃ K, ∀ k, K ≤ k → parseP s' k = some (0, 0, ⟨#[]⟩, [], (q : Int), e) := fun q e h => by
  obtain ⟨K, hK⟩ := parse_pr (r := .error (q, e)) h4' hV0 (by rw [hV']; exact Eerr.first h)
  exact ⟨K, fun k hk => hK k hk⟩
 match r, hk0, hG, hsim with
 | .error (q, e), hk0, hG, hsim =>
  obtain ⟨K, hK⟩ := parse_pr h4 hL0 ⟨k0, hk0⟩
  have he5 : ¬ e = 5 ∧ ¬ e = 0 := by rcases hG with h | h | h <;> omega
  have fin : ∀ (at' e' : Int) (K' : Nat), (∀ k, K' ≤ k → ∃ b1 b2 b3 b4, parseP s' k = some (b1, b2, b3, b4, at', e')) → q ≤ s.size → (q = s.size → e' = 6 ∧ (s.size : Int) < at') → (q < s.size → ¬ bt s (q : Int) = 41 → at' = (q : Int) + 1 ∧ e' = e) → ∃ K, ∀ k, K ≤ k → jobshelllaw05_ArithParens.j0 k s false = some true := by
   intro at' e' K' hK' hq h1 h2
   refine ⟨K + K' + 64, fun k hk => ?_⟩
   obtain ⟨k, rfl⟩ : ∃ j, k = j + 3 := ⟨k - 3, by omega⟩
   obtain ⟨b1, b2, b3, b4, hB⟩ := hK' (k + 2) (by omega)
   rw [parens_j0 (k + 2) s hs (hK (k + 2) (by omega)) hB, if_neg he5.2]
   exact parens_err k (by omega) s hs q e at' e' hq he5.1 h1 h2
  rcases hsim with ⟨h1, h2⟩ | ⟨h1, h2, h3⟩
  ·obtain ⟨K', hK'⟩ := tell (q + 1) e (E.paren_err suf' hun h40 (by rw [ht'.2]; exact ⟨k0, h2⟩))
   exact fin _ _ K' (fun k hk => ⟨_, _, _, _, hK' k hk⟩) (by omega) (fun h => by omega) (fun _ _ => ⟨by omega, rfl⟩)
  ·rcases h3 with ⟨y, h3⟩ | ⟨q', h4, h3⟩
   ·obtain ⟨K', hK'⟩ := tell (s.size + 2) 6 (E.paren_no suf' hun h40 (by rw [ht'.2]; exact ⟨k0, h3⟩) (by rw [Go.ByteArray.toList_eq]; simp))
    exact fin _ _ K' (fun k hk => ⟨_, _, _, _, hK' k hk⟩) (by omega) (fun h => ⟨rfl, by omega⟩) (fun h => by omega)
   ·obtain ⟨K', hK'⟩ := tell q' 6 (E.paren_err suf' hun h40 (by rw [ht'.2]; exact ⟨k0, h3⟩))
    exact fin _ _ K' (fun k hk => ⟨_, _, _, _, hK' k hk⟩) (by omega) (fun h => ⟨rfl, by omega⟩) (fun h => by omega)
 | .ok (x, p, t), hk0, hG, hsim =>
  obtain ⟨K, hK⟩ := parse_pr h4 hL0 ⟨k0, hk0⟩
  obtain ⟨L1, hA1, hb1, rfl, hN1, h2⟩ := hsim
  obtain ⟨_, _, _, _, _, hW⟩ := hG
  have hin : E s' .first (nx (sl s')) (.ok (x, p + 1, tk (L1 ++ [41]))) := by rw [ht'.2]; exact ⟨k0, h2⟩
  rcases Classical.em (L1 = []) with rfl | hL1
  ·-- the whole text was read
   have hA1' := at' hs' hA1
   have hU : ([] ++ [41] : List UInt8) <:+ sl s' := by rw [← hA1'.2]; exact List.drop_suffix _ _
   have hp := pl_of hA1'
   rw [hp] at hin
   have hop := E.paren (y := x) (U := [] ++ [41]) suf' hU hun h40 hin (by rw [List.nil_append, tk41, Go.ByteArray.toList_eq])
   rw [show nx ([] ++ [41]) = [] from rfl] at hop
   have hsec := E.second_stop (hop.lift 3 (by omega) ⟨0, 0, by rw [tkNil]; exact bi0, by omega⟩) (by rw [tkNil, Go.ByteArray.toList_eq]; simp)
   have hfirst : E s' .first (Vb (sl s')) (okL s' x []) := by rw [hV']; exact hsec.first_stop (by rw [tkNil]; exact as0) (by simp)
   obtain ⟨K', hK'⟩ := parse_pr h4' hV0 hfirst
   obtain ⟨kl, n, hl⟩ := levels_some hW
   obtain ⟨Ks, hKs⟩ := same_self hW
   obtain ⟨K0, hK0⟩ := same_self (x := ⟨0, 0, ⟨#[]⟩, []⟩) (.mk _ (Nat.zero_le _) (fun y h => by cases h))
   have ht0 : (tk ([] : List UInt8)).toList = [] := by rw [tkNil, Go.ByteArray.toList_eq]
   refine ⟨K + K' + kl + Ks + K0 + 64, fun k hk => ?_⟩
   obtain ⟨k, rfl⟩ : ∃ j, k = j + 2 := ⟨k - 2, by omega⟩
   have hP := hK (k + 1) (by omega)
   have hP' := hK' (k + 1) (by omega)
   have hl' := levels_up (show kl ≤ k + 1 by omega) hl
   by_cases hn : 32 < n
   ·rw [told_deep _ _ _ _ ht0 hl' hn] at hP
    rw [okL, told_deep _ _ _ _ ht0 hl' hn] at hP'
    rw [parens_j0 (k + 1) s hs hP hP', if_neg (by omega)]
    exact parens_same k (by omega) s 0 5 (hK0 k (by omega))
   ·rw [told_right _ _ _ _ ht0 hl' hn] at hP
    rw [okL, told_right _ _ _ _ ht0 hl' hn] at hP'
    rw [parens_j0 (k + 1) s hs hP hP', if_pos rfl]
    exact parens_same k (by omega) s 0 0 (hKs k (by omega))
  ·-- something stands behind the expression
   have ht1 : ¬ (tk L1).toList = [] := by
    rw [Go.ByteArray.toList_eq]
    intro e
    have h3 := tk_size L1
    have h5 := lexN_pos hL1
    have : (tk L1).size = 0 := by
     show (tk L1).data.toList.length = 0
     rw [e]
     rfl
    omega
   have hlen := hA1.len
   have hpos := List.length_pos_iff.mpr hL1
   have hP : ∀ k, K ≤ k → parseP s k = some (0, 0, ⟨#[]⟩, [], (p : Int), 6) := by
    intro k hk
    exact (hK k hk).trans (told_more k x p _ ht1)
   have fin : ∀ (at' e' : Int) (K' : Nat), (∀ k, K' ≤ k → ∃ b1 b2 b3 b4, parseP s' k = some (b1, b2, b3, b4, at', e')) → (¬ bt s (p : Int) = 41 → at' = (p : Int) + 1 ∧ e' = 6) → ∃ K, ∀ k, K ≤ k → jobshelllaw05_ArithParens.j0 k s false = some true := by
    intro at' e' K' hK' h2
    refine ⟨K + K' + 64, fun k hk => ?_⟩
    obtain ⟨k, rfl⟩ : ∃ j, k = j + 3 := ⟨k - 3, by omega⟩
    obtain ⟨b1, b2, b3, b4, hB⟩ := hK' (k + 2) (by omega)
    rw [parens_j0 (k + 2) s hs (hP (k + 2) (by omega)) hB, if_neg (by omega)]
    exact parens_err k (by omega) s hs p 6 at' e' (by omega) (by omega) (fun h => by omega) (fun _ h => h2 h)
   by_cases hc : bt s (p : Int) = 41
   ·obtain ⟨K', hK'⟩ := parse_pr h4' hV0 hr'
    match r', hK', hG' with
    | .error (q', e'), hK', _ => exact fin _ _ K' (fun k hk => ⟨_, _, _, _, hK' k hk⟩) (fun h => absurd hc h)
    | .ok (x', p', t'), hK', hG' =>
     obtain ⟨_, _, _, _, _, hW'⟩ := hG'
     obtain ⟨kl, n, hl⟩ := levels_some hW'
     by_cases ht : t'.toList = []
     ·by_cases hn : 32 < n
      ·exact fin 0 5 (K' + kl) (fun k hk => ⟨_, _, _, _, (hK' k (by omega)).trans (told_deep k x' p' t' ht (levels_up (by omega) hl) hn)⟩) (fun h => absurd hc h)
      ·exact fin 0 0 (K' + kl) (fun k hk => ⟨_, _, _, _, (hK' k (by omega)).trans (told_right k x' p' t' ht (levels_up (by omega) hl) hn)⟩) (fun h => absurd hc h)
     ·exact fin (p' : Int) 6 K' (fun k hk => ⟨_, _, _, _, (hK' k hk).trans (told_more k x' p' t' ht)⟩) (fun h => absurd hc h)
   ·rw [tk_snoc hL1] at hin
    obtain ⟨K', hK'⟩ := tell (p + 1) 6 (E.paren_no suf' hun h40 hin (tk_ne hA1 hL1 hc))
    exact fin _ _ K' (fun k hk => ⟨_, _, _, _, hK' k hk⟩) (fun _ => ⟨by omega, rfl⟩)
theorem parens_true (s : ByteArray) : ∃ k, jobshelllaw05_ArithParens.f k s = some true := by
 have aw : ∀ k, 62 ≤ k → jobshelllaw05_ArithParens.j0 k s true = some true := by
  intro k hk
  obtain ⟨k, rfl⟩ : ∃ j, k = j + 1 := ⟨k - 1, by omega⟩
  rw [jobshelllaw05_ArithParens.j0, if_pos rfl, awake_60 k (by omega), Option.bind_some]
 by_cases hs : (s.size : Int) > 120
 ·exact ⟨62, by unfold jobshelllaw05_ArithParens.f; rw [if_pos hs]; exact aw 62 (by omega)⟩
 ·by_cases hL : Vb (sl s) ≠ []
  ·obtain ⟨K, hK⟩ := parens_plain s (by omega) hL
   refine ⟨K + 200, ?_⟩
   obtain ⟨b, hb, _⟩ := blank_loop s (by omega) s.size 0 (K + 200) (by omega) (by omega)
   rw [show ((0 : Nat) : Int) = 0 from rfl] at hb
   unfold jobshelllaw05_ArithParens.f
   rw [if_neg hs, jobshelllaw05_blank.f, hb, Option.bind_some]
   cases b
   ·exact hK _ (by omega)
   ·exact aw _ (by omega)
  ·refine ⟨200, ?_⟩
   obtain ⟨b, hb, hb2⟩ := blank_loop s (by omega) s.size 0 200 (by omega) (by omega)
   rw [show ((0 : Nat) : Int) = 0 from rfl] at hb
   unfold jobshelllaw05_ArithParens.f
   rw [if_neg hs, jobshelllaw05_blank.f, hb, Option.bind_some]
   cases b
   ·exact absurd (hb2 rfl) (by rw [List.drop_zero]; exact hL)
   ·exact aw _ (by omega)
end Go.Proofs.YtglmdfddgmkmaaaDoor.Q
end
section
namespace Go.Proofs.YtglmdfddgmkmaaaDoor.Q
open Go.ChangeShapes Go.WideShapes Go.ChangeAt Go.RowKit
open Go.ChangeMaps (open_string shut_string)
set_option maxRecDepth 100000
set_option linter.unusedVariables false
theorem laidOut : laidOutB Tryd.prog = true := by kernel_rfl
theorem parens_lifted (os : Os) (started : os.Started) (H : Type) (enc : TypeId × Value → H) :
 ReturnsInHanded {} Tryd.checked os 9 .any (fun w args => (Rows.arithParensSpec.pre enc Tryd.prog Tryd.f9 [] false w args ∧ laidMetH Tryd.prog laid3 w) ∧ sizedMet enc Tryd.prog Tryd.f9 (OpenSpec.ofChange Rows.arithParensSpec) false w args)
  (Rows.arithParensSpec.post enc Tryd.prog Tryd.f9 false true false false) := by
 refine returnsInHanded_of_change_and (C := Tryd.checked) (X := fun w _ => laidMetH Tryd.prog laid3 w) (fun _ _ _ hh h => h.of_heap hh) own started (by kernel_rfl) Tryd.func9
  (ChangeSpec.witness_shaped (enc := enc) (C := Tryd.checked) (os := os) (X := fun w _ => laidMetH Tryd.prog laid3 w) false (World.doorLaid Tryd.prog 400 os) #[.string ⟨#[]⟩] 8 rfl (World.shaped_of_RefB (by kernel_rfl) (by kernel_rfl)) (by kernel_rfl) (by kernel_rfl) (by kernel_rfl) (door_met os _)) ?_
 intro W base args ds gs before hval0 hW _ _ hL _
 have hval : ∀ (j : Nat) t v, Tryd.f9.params[j]? = some t → args[j]? = some v → Value.okWide Tryd.prog W .any base t v := hval0
 have hW' := hW
 obtain ⟨p, q, hA0, hV, rfl, hfz, hnd⟩ := hW
 have hA : DataW.TrodAll enc Tryd.prog W 0 (fun _ => true) true Tryd.f9.params.toList args.toList ds p := hA0
 rw [Tryd.params9] at hA hval
 obtain ⟨v0, vs0, d0, ds0, p0, q0, hargs, rfl, rfl, h0, r0⟩ := trodAll_cons hA
 obtain ⟨rfl, rfl, rfl⟩ := trodAll_nil r0
 obtain rfl : args = #[v0] := by cases args; simp_all
 obtain ⟨rfl, rfl⟩ := trodVars_none hV
 obtain ⟨a0, rfl, rfl, rfl, y0⟩ := open_string Tryd.underlying9 (hval 0 9 v0 rfl rfl) h0
 obtain ⟨k, hk⟩ := parens_true a0
 refine (jobshelllaw05_ArithParens.calls k a0 true W  hk (of_laid hL)).mono fun e W' ⟨he, bel⟩ => ?_
 subst he
 exact ⟨_, rfl, _, _, _, [], _, [], hW', trodAll_mk1 (shut_bool Tryd.underlying4 _), (trodAll_cons_mk (shut_string Tryd.underlying9 y0) trodAll_mk0), rfl, bel.frame _, fun h => by cases h⟩
theorem arithParens_holds : Rows.ArithParensSaid :=
 OpenClaim.holds_of_wide 9 Tryd.f9 rfl rfl rfl rfl rfl rfl rfl ⟨rfl, rfl, rfl, rfl, rfl⟩ rfl rfl rfl rfl rfl (by kernel_rfl) Tryd.func9 (by kernel_rfl)
  (of_decide_eq_true (by kernel_rfl)) (by unfold Func.isWrapper; first | (rw [if_pos (by decide +kernel)]; kernel_rfl) | (rw [if_neg (by decide +kernel)]; exact ⟨rfl, rfl⟩))
  (fun os started H enc _ => parens_lifted os started H enc)
end Go.Proofs.YtglmdfddgmkmaaaDoor.Q
namespace Go.Proofs.YtglmdfddgmkmaaaDoor
open Q
set_option maxRecDepth 100000
theorem arithParens_card : Rows.ArithParensCardSaid :=
 Claim7.holds_tied_plain_at .later [] [.data, .data, .data] true (true, "74cc2cd4b784e984c7617e824861adf5041c4fd5a2cf63fd298402107294065b") true
  arithParens_holds (fun _ h => by cases h) (by kernel_rfl) (fun _ h => by cases h) arithParens_row_tie rfl ⟨rfl, rfl⟩ (by kernel_rfl) rfl
  (fun f fn hf hfn => by
   obtain rfl : f = 9 := Option.some.inj ((show Tryd.prog.funcNamed "jobshell/jobshelllaw05.ArithParens" = some 9 by kernel_rfl).symm.trans hf) |>.symm
   obtain rfl : fn = Tryd.f9 := (Option.some.inj (Tryd.func9.symm.trans hfn)).symm
   exact ⟨by kernel_rfl, fun j t ht => by
    rw [Tryd.params9] at ht
    have hm : t ∈ [9] := by simpa using Array.mem_of_getElem? ht
    have hall : ([9].all fun u => !Tryd.prog.wantsStandIn u) = true := by kernel_rfl
    exact (show Tryd.prog.wantsStandIn t = false by simpa using List.all_eq_true.1 hall t hm)⟩)
  (by kernel_rfl)
end Go.Proofs.YtglmdfddgmkmaaaDoor
end
