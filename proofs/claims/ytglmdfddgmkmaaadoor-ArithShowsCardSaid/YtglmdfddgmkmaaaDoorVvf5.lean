/- Show formats every expression tree, or returns the first error (P5.2): ArithShows answers true for every tree; no condition beyond those of the statement itself (the tables that its row lays). Last part: the law, its plain law, its row and its card. -/
import Derived.ChangeOld
import Derived.SizedLaws
import Derived.SevenTiedAt
import Derived.ShutString
import Derived.Test.YtglmdfddgmkmaaaDoorTie
import Derived.Test.YtglmdfddgmkmaaaDoorCards
import Derived.Test.YtglmdfddgmkmaaaDoorVvf4
section
namespace Go.Proofs.YtglmdfddgmkmaaaDoor.Q
open Go.RowKit Go.Proofs.YtglmdfddgmkmaaaDoorW.PrintWords Go.Proofs.YtglmdfddgmkmaaaDoorW.PrintLast Go.Proofs.YtglmdfddgmkmaaaDoorW.PrintMore
attribute [local go_sem] max2_int min2_int max_two min_two max_three min_three max_four min_four
set_option linter.unusedVariables false
set_option linter.unusedSimpArgs false
set_option maxHeartbeats 8000000 in
set_option maxRecDepth 100000 in
theorem jobshelllaw05_ArithShows.calls (k : Nat) (a0_0 : Int) (a0_1 : Int) (a0_2 : ByteArray) (A0_3 : Option Addr) (c0_3 : Nat) (l0_3 : List (S26)) (r : Bool) (w : World) (hr0_3 : Kd.C k26 w A0_3 l0_3.length l0_3) (hc0_3 : l0_3.length ≤ c0_3) (h : jobshelllaw05_ArithShows.f k a0_0 a0_1 a0_2 l0_3 = some r) (hT : Laid w := by first | assumption | exact HT.out | exact Laid.below HT.out (by repeat (first | (with_reducible first | exact HB.out | apply below_alloc | apply pw_below_drewN | apply below_drew1 | refine below_set ?_ (Aside0.out (by assumption))) | exact HB.out))) :
 Calls Tryd.prog 4 #[.agg #[.int .i64 a0_0, .int .i64 a0_1, .string a0_2, .slice A0_3 l0_3.length c0_3]] w fun e w' => e = .returned (.bool r) ∧ Below w.heap.size w w' := by
 have hu26 := Tryd.underlying26
 have HR0_3 := Aside0.mk hr0_3
 have HC0_3 := Aside0.mk hc0_3
 clear hr0_3 hc0_3
 have HB := Aside0.mk (Below.refl w.heap.size w)
 have HT : Aside0 (Laid w) := Aside0.mk hT
 clear hT
 have H : ((jobshellref05_Small.f k a0_0 a0_1 a0_2 l0_3 60).bind fun t240 => (if t240 = true then ((arith_Show.f k a0_0 a0_1 a0_2 l0_3).bind fun bt241 => ((jobshellref05_Show.f k a0_0 a0_1 a0_2 l0_3).bind fun bt243 => (if bt241.1.toList = bt243.1.toList then (if bt241.2 = bt243.2 then ((jobshelllaw05_awake.f k).bind fun t245 => (some t245)) else (some false)) else (some false)))) else ((jobshelllaw05_awake.f k).bind fun t246 => (some t246)))) = some r := h
 clear h
 replace H := Option.bind_eq_some_iff.mp H
 obtain ⟨t240, A20, H⟩ := H
 try dsimp only at H
 have A2 := Aside0.mk A20
 clear A20
 by_cases c3 : t240 = true
 rotate_left
 ·replace c3 := Bool.eq_false_iff.mpr c3
  subst c3
  have H1 : ((jobshelllaw05_awake.f k).bind fun t246 => (some t246)) = some r := by rw [if_neg (show ¬ (false = true) by decide)] at H; exact H
  clear H
  have H := H1
  clear H1
  replace H := Option.bind_eq_some_iff.mp H
  obtain ⟨t246, A310, H⟩ := H
  try dsimp only at H
  have A31 := Aside0.mk A310
  clear A310
  obtain rfl := Option.some.inj H
  go_enter Tryd.func4, Tryd.ntmps4
  go_wp2_with (first | ((with_reducible refine gate_dst (N := 1) rfl ?_); refine box_event ?hg (N := 1) ?hd (cs := #[.int .i64 a0_0, .int .i64 a0_1, .string a0_2, .slice A0_3 l0_3.length c0_3]) (t := 26) ?hr ?_; (case hd => rfl); (case hg => rfl); (case hr => first | (go_simp; done) | (go_simp; rfl)); intro gb239 hg w32 hbox hb; have n0_ := Aside0.mk (below_step (by repeat (first | (with_reducible first | exact HB.out | apply below_alloc | apply pw_below_drewN | apply below_drew1) | exact HB.out)) hb); have n1_ := Aside0.mk (hbox); have n2_ := Aside0.mk ((by rw [hg]; exact (below_size (by repeat (first | (with_reducible first | exact HB.out | apply below_alloc | apply pw_below_drewN | apply below_drew1) | exact HB.out))) : w.heap.size ≤ gb239)); have n3_ := Aside0.mk ((by rw [hg]; exact (below_size (by repeat (first | (with_reducible first | exact HB.out | apply below_alloc | apply pw_below_drewN | apply below_drew1) | exact HB.out))) : w.heap.size ≤ gb239)); clear HB; have HB := n0_; have BK239 := n1_; have GW239 := n2_; have GE239 := n3_; clear n0_ n1_ n2_ n3_; clear hb hbox hg; have hcz33_0 : w32.cell? ⟨gb239, 0, none⟩ = some (.int .i64 a0_0) := (blk_cell BK239.out 0).trans rfl; have hcz33_1 : w32.cell? ⟨gb239, 1, none⟩ = some (.int .i64 a0_1) := (blk_cell BK239.out 1).trans rfl; have hcz33_2 : w32.cell? ⟨gb239, 2, none⟩ = some (.string a0_2) := (blk_cell BK239.out 2).trans rfl; have hcz33_3 : w32.cell? ⟨gb239, 3, none⟩ = some (.slice A0_3 l0_3.length c0_3) := (blk_cell BK239.out 3).trans rfl; have hfz33_0 := blk_frozen BK239.out 0; have hfz33_1 := blk_frozen BK239.out 1; have hfz33_2 := blk_frozen BK239.out 2; have hfz33_3 := blk_frozen BK239.out 3) | ((with_reducible refine gate_callee (f := 21) rfl ?_); refine goesL_ (some 8) rfl rfl Tryd.func21 (by kernel_rfl) rfl #[.agg #[.int .i64 a0_0, .int .i64 a0_1, .string a0_2, .slice A0_3 l0_3.length c0_3], .int .i64 60] rfl (by (try simp only [List.map_toArray, List.map_cons, List.map_nil]); first | done | rfl | (simp only [List.length_drop, List.length_take]; rfl)) ?_; (with_reducible refine (jobshellref05_Small.calls k a0_0 a0_1 a0_2 _ _ l0_3 60 false _ ?side1 ?side2 A2.out).mono ?_); (case side1 => repeat (first | exact (Kd.C_below HR0_3.out HB.out) | (with_reducible refine Kd.C_alloc ?_ _) | (with_reducible refine Kd.C_drewN ?_ _) | (with_reducible refine Kd.C_drew ?_))); (case side2 => exact HC0_3.out); rintro e w34 ⟨rfl, hb⟩; refine ⟨_, rfl, ?_⟩; have n0_ := Aside0.mk (blk_below (g := gb239) (o := .cells #[.int .i64 a0_0, .int .i64 a0_1, .string a0_2, .slice A0_3 l0_3.length c0_3] 26 (0, 0)) (by (with_reducible repeat (first | refine blk_drewN ?_ _ | refine blk_drew ?_ | refine blk_alloc ?_ _)); exact BK239.out) hb); have n1_ := Aside0.mk (below_step (by repeat (first | (with_reducible first | exact HB.out | apply below_alloc | apply pw_below_drewN | apply below_drew1 | refine below_set ?_ GE239.out) | exact HB.out)) hb); clear BK239; clear HB; have BK239 := n0_; have HB := n1_; clear n0_ n1_; (try clear hb); (try clear hb2); (try clear hk); (try clear hi)) | ((with_reducible refine gate_callee (f := 17) rfl ?_); refine goesL_ (some 10) rfl rfl Tryd.func17 (by kernel_rfl) rfl #[] rfl (by (try simp only [List.map_toArray, List.map_cons, List.map_nil]); first | done | rfl | (simp only [List.length_drop, List.length_take]; rfl)) ?_; (with_reducible refine (jobshelllaw05_awake.calls k  t246 _ A31.out).mono ?_); rintro e w35 ⟨rfl, hb⟩; refine ⟨_, rfl, ?_⟩; have n0_ := Aside0.mk (blk_below (g := gb239) (o := .cells #[.int .i64 a0_0, .int .i64 a0_1, .string a0_2, .slice A0_3 l0_3.length c0_3] 26 (0, 0)) (by (with_reducible repeat (first | refine blk_drewN ?_ _ | refine blk_drew ?_ | refine blk_alloc ?_ _)); exact BK239.out) hb); have n1_ := Aside0.mk (below_step (by repeat (first | (with_reducible first | exact HB.out | apply below_alloc | apply pw_below_drewN | apply below_drew1 | refine below_set ?_ GE239.out) | exact HB.out)) hb); clear BK239; clear HB; have BK239 := n0_; have HB := n1_; clear n0_ n1_; (try clear hb); (try clear hb2); (try clear hk); (try clear hi)))
  go_ret
  exact ⟨by first | rfl | (simp [errW_none, errW_some] <;> rfl) | (simp [*, errW_none, errW_some] <;> rfl), by repeat (first | (with_reducible first | exact HB.out | apply below_alloc | apply pw_below_drewN | apply below_drew1 | refine below_set ?_ GE239.out) | exact HB.out)⟩
 subst c3
 have H1 : ((arith_Show.f k a0_0 a0_1 a0_2 l0_3).bind fun bt241 => ((jobshellref05_Show.f k a0_0 a0_1 a0_2 l0_3).bind fun bt243 => (if bt241.1.toList = bt243.1.toList then (if bt241.2 = bt243.2 then ((jobshelllaw05_awake.f k).bind fun t245 => (some t245)) else (some false)) else (some false)))) = some r := by rw [if_pos rfl] at H; exact H
 clear H
 have H := H1
 clear H1
 replace H := Option.bind_eq_some_iff.mp H
 obtain ⟨⟨t241, t242⟩, A40, H⟩ := H
 try dsimp only at H
 have A4 := Aside0.mk A40
 clear A40
 replace H := Option.bind_eq_some_iff.mp H
 obtain ⟨⟨t243, t244⟩, A50, H⟩ := H
 try dsimp only at H
 have A5 := Aside0.mk A50
 clear A50
 by_cases c6 : t241.toList = t243.toList
 rotate_left
 ·rw [if_neg c6] at H
  have c6b0 : (t241.toList == t243.toList) = false := beq_eq_false_iff_ne.mpr c6
  have c6b1 : (t241.toList != t243.toList) = true := bne_iff_ne.mpr c6
  obtain rfl := Option.some.inj H
  go_enter Tryd.func4, Tryd.ntmps4
  go_wp2_with (first | ((with_reducible refine gate_dst (N := 1) rfl ?_); refine box_event ?hg (N := 1) ?hd (cs := #[.int .i64 a0_0, .int .i64 a0_1, .string a0_2, .slice A0_3 l0_3.length c0_3]) (t := 26) ?hr ?_; (case hd => rfl); (case hg => rfl); (case hr => first | (go_simp; done) | (go_simp; rfl)); intro gb239 hg w24 hbox hb; have n0_ := Aside0.mk (below_step (by repeat (first | (with_reducible first | exact HB.out | apply below_alloc | apply pw_below_drewN | apply below_drew1) | exact HB.out)) hb); have n1_ := Aside0.mk (hbox); have n2_ := Aside0.mk ((by rw [hg]; exact (below_size (by repeat (first | (with_reducible first | exact HB.out | apply below_alloc | apply pw_below_drewN | apply below_drew1) | exact HB.out))) : w.heap.size ≤ gb239)); have n3_ := Aside0.mk ((by rw [hg]; exact (below_size (by repeat (first | (with_reducible first | exact HB.out | apply below_alloc | apply pw_below_drewN | apply below_drew1) | exact HB.out))) : w.heap.size ≤ gb239)); clear HB; have HB := n0_; have BK239 := n1_; have GW239 := n2_; have GE239 := n3_; clear n0_ n1_ n2_ n3_; clear hb hbox hg; have hcz25_0 : w24.cell? ⟨gb239, 0, none⟩ = some (.int .i64 a0_0) := (blk_cell BK239.out 0).trans rfl; have hcz25_1 : w24.cell? ⟨gb239, 1, none⟩ = some (.int .i64 a0_1) := (blk_cell BK239.out 1).trans rfl; have hcz25_2 : w24.cell? ⟨gb239, 2, none⟩ = some (.string a0_2) := (blk_cell BK239.out 2).trans rfl; have hcz25_3 : w24.cell? ⟨gb239, 3, none⟩ = some (.slice A0_3 l0_3.length c0_3) := (blk_cell BK239.out 3).trans rfl; have hfz25_0 := blk_frozen BK239.out 0; have hfz25_1 := blk_frozen BK239.out 1; have hfz25_2 := blk_frozen BK239.out 2; have hfz25_3 := blk_frozen BK239.out 3) | ((with_reducible refine gate_callee (f := 21) rfl ?_); refine goesL_ (some 8) rfl rfl Tryd.func21 (by kernel_rfl) rfl #[.agg #[.int .i64 a0_0, .int .i64 a0_1, .string a0_2, .slice A0_3 l0_3.length c0_3], .int .i64 60] rfl (by (try simp only [List.map_toArray, List.map_cons, List.map_nil]); first | done | rfl | (simp only [List.length_drop, List.length_take]; rfl)) ?_; (with_reducible refine (jobshellref05_Small.calls k a0_0 a0_1 a0_2 _ _ l0_3 60 true _ ?side1 ?side2 A2.out).mono ?_); (case side1 => repeat (first | exact (Kd.C_below HR0_3.out HB.out) | (with_reducible refine Kd.C_alloc ?_ _) | (with_reducible refine Kd.C_drewN ?_ _) | (with_reducible refine Kd.C_drew ?_))); (case side2 => exact HC0_3.out); rintro e w26 ⟨rfl, hb⟩; refine ⟨_, rfl, ?_⟩; have n0_ := Aside0.mk (blk_below (g := gb239) (o := .cells #[.int .i64 a0_0, .int .i64 a0_1, .string a0_2, .slice A0_3 l0_3.length c0_3] 26 (0, 0)) (by (with_reducible repeat (first | refine blk_drewN ?_ _ | refine blk_drew ?_ | refine blk_alloc ?_ _)); exact BK239.out) hb); have n1_ := Aside0.mk (below_step (by repeat (first | (with_reducible first | exact HB.out | apply below_alloc | apply pw_below_drewN | apply below_drew1 | refine below_set ?_ GE239.out) | exact HB.out)) hb); clear BK239; clear HB; have BK239 := n0_; have HB := n1_; clear n0_ n1_; (try clear hb); (try clear hb2); (try clear hk); (try clear hi); have hcz27_0 : w26.cell? ⟨gb239, 0, none⟩ = some (.int .i64 a0_0) := (blk_cell BK239.out 0).trans rfl; have hcz27_1 : w26.cell? ⟨gb239, 1, none⟩ = some (.int .i64 a0_1) := (blk_cell BK239.out 1).trans rfl; have hcz27_2 : w26.cell? ⟨gb239, 2, none⟩ = some (.string a0_2) := (blk_cell BK239.out 2).trans rfl; have hcz27_3 : w26.cell? ⟨gb239, 3, none⟩ = some (.slice A0_3 l0_3.length c0_3) := (blk_cell BK239.out 3).trans rfl; have hfz27_0 := blk_frozen BK239.out 0; have hfz27_1 := blk_frozen BK239.out 1; have hfz27_2 := blk_frozen BK239.out 2; have hfz27_3 := blk_frozen BK239.out 3) | ((with_reducible refine gate_callee (f := 22) rfl ?_); refine goesL_ (some 13) rfl rfl Tryd.func22 (by kernel_rfl) rfl #[.agg #[.int .i64 a0_0, .int .i64 a0_1, .string a0_2, .slice A0_3 l0_3.length c0_3]] rfl (by (try simp only [List.map_toArray, List.map_cons, List.map_nil]); first | done | rfl | (simp only [List.length_drop, List.length_take]; rfl)) ?_; (with_reducible refine (arith_Show.calls k a0_0 a0_1 a0_2 _ _ l0_3 t241 t242 _ ?side1 ?side2 A4.out).mono ?_); (case side1 => repeat (first | exact (Kd.C_below HR0_3.out HB.out) | (with_reducible refine Kd.C_alloc ?_ _) | (with_reducible refine Kd.C_drewN ?_ _) | (with_reducible refine Kd.C_drew ?_))); (case side2 => exact HC0_3.out); rintro e w28 ⟨rfl, hb⟩; refine ⟨_, rfl, ?_⟩; have n0_ := Aside0.mk (blk_below (g := gb239) (o := .cells #[.int .i64 a0_0, .int .i64 a0_1, .string a0_2, .slice A0_3 l0_3.length c0_3] 26 (0, 0)) (by (with_reducible repeat (first | refine blk_drewN ?_ _ | refine blk_drew ?_ | refine blk_alloc ?_ _)); exact BK239.out) hb); have n1_ := Aside0.mk (below_step (by repeat (first | (with_reducible first | exact HB.out | apply below_alloc | apply pw_below_drewN | apply below_drew1 | refine below_set ?_ GE239.out) | exact HB.out)) hb); clear BK239; clear HB; have BK239 := n0_; have HB := n1_; clear n0_ n1_; (try clear hb); (try clear hb2); (try clear hk); (try clear hi); have hcz29_0 : w28.cell? ⟨gb239, 0, none⟩ = some (.int .i64 a0_0) := (blk_cell BK239.out 0).trans rfl; have hcz29_1 : w28.cell? ⟨gb239, 1, none⟩ = some (.int .i64 a0_1) := (blk_cell BK239.out 1).trans rfl; have hcz29_2 : w28.cell? ⟨gb239, 2, none⟩ = some (.string a0_2) := (blk_cell BK239.out 2).trans rfl; have hcz29_3 : w28.cell? ⟨gb239, 3, none⟩ = some (.slice A0_3 l0_3.length c0_3) := (blk_cell BK239.out 3).trans rfl; have hfz29_0 := blk_frozen BK239.out 0; have hfz29_1 := blk_frozen BK239.out 1; have hfz29_2 := blk_frozen BK239.out 2; have hfz29_3 := blk_frozen BK239.out 3) | ((with_reducible refine gate_callee (f := 23) rfl ?_); refine goesL_ (some 18) rfl rfl Tryd.func23 (by kernel_rfl) rfl #[.agg #[.int .i64 a0_0, .int .i64 a0_1, .string a0_2, .slice A0_3 l0_3.length c0_3]] rfl (by (try simp only [List.map_toArray, List.map_cons, List.map_nil]); first | done | rfl | (simp only [List.length_drop, List.length_take]; rfl)) ?_; (with_reducible refine (jobshellref05_Show.calls k a0_0 a0_1 a0_2 _ _ l0_3 t243 t244 _ ?side1 ?side2 A5.out).mono ?_); (case side1 => repeat (first | exact (Kd.C_below HR0_3.out HB.out) | (with_reducible refine Kd.C_alloc ?_ _) | (with_reducible refine Kd.C_drewN ?_ _) | (with_reducible refine Kd.C_drew ?_))); (case side2 => exact HC0_3.out); rintro e w30 ⟨rfl, hb⟩; refine ⟨_, rfl, ?_⟩; have n0_ := Aside0.mk (blk_below (g := gb239) (o := .cells #[.int .i64 a0_0, .int .i64 a0_1, .string a0_2, .slice A0_3 l0_3.length c0_3] 26 (0, 0)) (by (with_reducible repeat (first | refine blk_drewN ?_ _ | refine blk_drew ?_ | refine blk_alloc ?_ _)); exact BK239.out) hb); have n1_ := Aside0.mk (below_step (by repeat (first | (with_reducible first | exact HB.out | apply below_alloc | apply pw_below_drewN | apply below_drew1 | refine below_set ?_ GE239.out) | exact HB.out)) hb); clear BK239; clear HB; have BK239 := n0_; have HB := n1_; clear n0_ n1_; (try clear hb); (try clear hb2); (try clear hk); (try clear hi)))
  go_ret
  exact ⟨by first | rfl | (simp [errW_none, errW_some] <;> rfl) | (simp [*, errW_none, errW_some] <;> rfl), by repeat (first | (with_reducible first | exact HB.out | apply below_alloc | apply pw_below_drewN | apply below_drew1 | refine below_set ?_ GE239.out) | exact HB.out)⟩
 rw [if_pos c6] at H
 have c6b0 : (t241.toList == t243.toList) = true := beq_iff_eq.mpr c6
 have c6b1 : (t241.toList != t243.toList) = false := bne_eq_false_iff_eq.mpr c6
 clear c6
 by_cases c7 : t242 = t244
 rotate_left
 ·rw [if_neg c7] at H
  have c7b0 : (t242 == t244) = false := beq_eq_false_iff_ne.mpr c7
  have c7b1 : (t242 != t244) = true := bne_iff_ne.mpr c7
  obtain rfl := Option.some.inj H
  go_enter Tryd.func4, Tryd.ntmps4
  go_wp2_with (first | ((with_reducible refine gate_dst (N := 1) rfl ?_); refine box_event ?hg (N := 1) ?hd (cs := #[.int .i64 a0_0, .int .i64 a0_1, .string a0_2, .slice A0_3 l0_3.length c0_3]) (t := 26) ?hr ?_; (case hd => rfl); (case hg => rfl); (case hr => first | (go_simp; done) | (go_simp; rfl)); intro gb239 hg w17 hbox hb; have n0_ := Aside0.mk (below_step (by repeat (first | (with_reducible first | exact HB.out | apply below_alloc | apply pw_below_drewN | apply below_drew1) | exact HB.out)) hb); have n1_ := Aside0.mk (hbox); have n2_ := Aside0.mk ((by rw [hg]; exact (below_size (by repeat (first | (with_reducible first | exact HB.out | apply below_alloc | apply pw_below_drewN | apply below_drew1) | exact HB.out))) : w.heap.size ≤ gb239)); have n3_ := Aside0.mk ((by rw [hg]; exact (below_size (by repeat (first | (with_reducible first | exact HB.out | apply below_alloc | apply pw_below_drewN | apply below_drew1) | exact HB.out))) : w.heap.size ≤ gb239)); clear HB; have HB := n0_; have BK239 := n1_; have GW239 := n2_; have GE239 := n3_; clear n0_ n1_ n2_ n3_; clear hb hbox hg; have hcz18_0 : w17.cell? ⟨gb239, 0, none⟩ = some (.int .i64 a0_0) := (blk_cell BK239.out 0).trans rfl; have hcz18_1 : w17.cell? ⟨gb239, 1, none⟩ = some (.int .i64 a0_1) := (blk_cell BK239.out 1).trans rfl; have hcz18_2 : w17.cell? ⟨gb239, 2, none⟩ = some (.string a0_2) := (blk_cell BK239.out 2).trans rfl; have hcz18_3 : w17.cell? ⟨gb239, 3, none⟩ = some (.slice A0_3 l0_3.length c0_3) := (blk_cell BK239.out 3).trans rfl; have hfz18_0 := blk_frozen BK239.out 0; have hfz18_1 := blk_frozen BK239.out 1; have hfz18_2 := blk_frozen BK239.out 2; have hfz18_3 := blk_frozen BK239.out 3) | ((with_reducible refine gate_callee (f := 21) rfl ?_); refine goesL_ (some 8) rfl rfl Tryd.func21 (by kernel_rfl) rfl #[.agg #[.int .i64 a0_0, .int .i64 a0_1, .string a0_2, .slice A0_3 l0_3.length c0_3], .int .i64 60] rfl (by (try simp only [List.map_toArray, List.map_cons, List.map_nil]); first | done | rfl | (simp only [List.length_drop, List.length_take]; rfl)) ?_; (with_reducible refine (jobshellref05_Small.calls k a0_0 a0_1 a0_2 _ _ l0_3 60 true _ ?side1 ?side2 A2.out).mono ?_); (case side1 => repeat (first | exact (Kd.C_below HR0_3.out HB.out) | (with_reducible refine Kd.C_alloc ?_ _) | (with_reducible refine Kd.C_drewN ?_ _) | (with_reducible refine Kd.C_drew ?_))); (case side2 => exact HC0_3.out); rintro e w19 ⟨rfl, hb⟩; refine ⟨_, rfl, ?_⟩; have n0_ := Aside0.mk (blk_below (g := gb239) (o := .cells #[.int .i64 a0_0, .int .i64 a0_1, .string a0_2, .slice A0_3 l0_3.length c0_3] 26 (0, 0)) (by (with_reducible repeat (first | refine blk_drewN ?_ _ | refine blk_drew ?_ | refine blk_alloc ?_ _)); exact BK239.out) hb); have n1_ := Aside0.mk (below_step (by repeat (first | (with_reducible first | exact HB.out | apply below_alloc | apply pw_below_drewN | apply below_drew1 | refine below_set ?_ GE239.out) | exact HB.out)) hb); clear BK239; clear HB; have BK239 := n0_; have HB := n1_; clear n0_ n1_; (try clear hb); (try clear hb2); (try clear hk); (try clear hi); have hcz20_0 : w19.cell? ⟨gb239, 0, none⟩ = some (.int .i64 a0_0) := (blk_cell BK239.out 0).trans rfl; have hcz20_1 : w19.cell? ⟨gb239, 1, none⟩ = some (.int .i64 a0_1) := (blk_cell BK239.out 1).trans rfl; have hcz20_2 : w19.cell? ⟨gb239, 2, none⟩ = some (.string a0_2) := (blk_cell BK239.out 2).trans rfl; have hcz20_3 : w19.cell? ⟨gb239, 3, none⟩ = some (.slice A0_3 l0_3.length c0_3) := (blk_cell BK239.out 3).trans rfl; have hfz20_0 := blk_frozen BK239.out 0; have hfz20_1 := blk_frozen BK239.out 1; have hfz20_2 := blk_frozen BK239.out 2; have hfz20_3 := blk_frozen BK239.out 3) | ((with_reducible refine gate_callee (f := 22) rfl ?_); refine goesL_ (some 13) rfl rfl Tryd.func22 (by kernel_rfl) rfl #[.agg #[.int .i64 a0_0, .int .i64 a0_1, .string a0_2, .slice A0_3 l0_3.length c0_3]] rfl (by (try simp only [List.map_toArray, List.map_cons, List.map_nil]); first | done | rfl | (simp only [List.length_drop, List.length_take]; rfl)) ?_; (with_reducible refine (arith_Show.calls k a0_0 a0_1 a0_2 _ _ l0_3 t241 t242 _ ?side1 ?side2 A4.out).mono ?_); (case side1 => repeat (first | exact (Kd.C_below HR0_3.out HB.out) | (with_reducible refine Kd.C_alloc ?_ _) | (with_reducible refine Kd.C_drewN ?_ _) | (with_reducible refine Kd.C_drew ?_))); (case side2 => exact HC0_3.out); rintro e w21 ⟨rfl, hb⟩; refine ⟨_, rfl, ?_⟩; have n0_ := Aside0.mk (blk_below (g := gb239) (o := .cells #[.int .i64 a0_0, .int .i64 a0_1, .string a0_2, .slice A0_3 l0_3.length c0_3] 26 (0, 0)) (by (with_reducible repeat (first | refine blk_drewN ?_ _ | refine blk_drew ?_ | refine blk_alloc ?_ _)); exact BK239.out) hb); have n1_ := Aside0.mk (below_step (by repeat (first | (with_reducible first | exact HB.out | apply below_alloc | apply pw_below_drewN | apply below_drew1 | refine below_set ?_ GE239.out) | exact HB.out)) hb); clear BK239; clear HB; have BK239 := n0_; have HB := n1_; clear n0_ n1_; (try clear hb); (try clear hb2); (try clear hk); (try clear hi); have hcz22_0 : w21.cell? ⟨gb239, 0, none⟩ = some (.int .i64 a0_0) := (blk_cell BK239.out 0).trans rfl; have hcz22_1 : w21.cell? ⟨gb239, 1, none⟩ = some (.int .i64 a0_1) := (blk_cell BK239.out 1).trans rfl; have hcz22_2 : w21.cell? ⟨gb239, 2, none⟩ = some (.string a0_2) := (blk_cell BK239.out 2).trans rfl; have hcz22_3 : w21.cell? ⟨gb239, 3, none⟩ = some (.slice A0_3 l0_3.length c0_3) := (blk_cell BK239.out 3).trans rfl; have hfz22_0 := blk_frozen BK239.out 0; have hfz22_1 := blk_frozen BK239.out 1; have hfz22_2 := blk_frozen BK239.out 2; have hfz22_3 := blk_frozen BK239.out 3) | ((with_reducible refine gate_callee (f := 23) rfl ?_); refine goesL_ (some 18) rfl rfl Tryd.func23 (by kernel_rfl) rfl #[.agg #[.int .i64 a0_0, .int .i64 a0_1, .string a0_2, .slice A0_3 l0_3.length c0_3]] rfl (by (try simp only [List.map_toArray, List.map_cons, List.map_nil]); first | done | rfl | (simp only [List.length_drop, List.length_take]; rfl)) ?_; (with_reducible refine (jobshellref05_Show.calls k a0_0 a0_1 a0_2 _ _ l0_3 t243 t244 _ ?side1 ?side2 A5.out).mono ?_); (case side1 => repeat (first | exact (Kd.C_below HR0_3.out HB.out) | (with_reducible refine Kd.C_alloc ?_ _) | (with_reducible refine Kd.C_drewN ?_ _) | (with_reducible refine Kd.C_drew ?_))); (case side2 => exact HC0_3.out); rintro e w23 ⟨rfl, hb⟩; refine ⟨_, rfl, ?_⟩; have n0_ := Aside0.mk (blk_below (g := gb239) (o := .cells #[.int .i64 a0_0, .int .i64 a0_1, .string a0_2, .slice A0_3 l0_3.length c0_3] 26 (0, 0)) (by (with_reducible repeat (first | refine blk_drewN ?_ _ | refine blk_drew ?_ | refine blk_alloc ?_ _)); exact BK239.out) hb); have n1_ := Aside0.mk (below_step (by repeat (first | (with_reducible first | exact HB.out | apply below_alloc | apply pw_below_drewN | apply below_drew1 | refine below_set ?_ GE239.out) | exact HB.out)) hb); clear BK239; clear HB; have BK239 := n0_; have HB := n1_; clear n0_ n1_; (try clear hb); (try clear hb2); (try clear hk); (try clear hi)))
  go_ret
  exact ⟨by first | rfl | (simp [errW_none, errW_some] <;> rfl) | (simp [*, errW_none, errW_some] <;> rfl), by repeat (first | (with_reducible first | exact HB.out | apply below_alloc | apply pw_below_drewN | apply below_drew1 | refine below_set ?_ GE239.out) | exact HB.out)⟩
 rw [if_pos c7] at H
 have c7b0 : (t242 == t244) = true := beq_iff_eq.mpr c7
 have c7b1 : (t242 != t244) = false := bne_eq_false_iff_eq.mpr c7
 clear c7
 replace H := Option.bind_eq_some_iff.mp H
 obtain ⟨t245, A80, H⟩ := H
 try dsimp only at H
 have A8 := Aside0.mk A80
 clear A80
 obtain rfl := Option.some.inj H
 go_enter Tryd.func4, Tryd.ntmps4
 go_wp2_with (first | ((with_reducible refine gate_dst (N := 1) rfl ?_); refine box_event ?hg (N := 1) ?hd (cs := #[.int .i64 a0_0, .int .i64 a0_1, .string a0_2, .slice A0_3 l0_3.length c0_3]) (t := 26) ?hr ?_; (case hd => rfl); (case hg => rfl); (case hr => first | (go_simp; done) | (go_simp; rfl)); intro gb239 hg w9 hbox hb; have n0_ := Aside0.mk (below_step (by repeat (first | (with_reducible first | exact HB.out | apply below_alloc | apply pw_below_drewN | apply below_drew1) | exact HB.out)) hb); have n1_ := Aside0.mk (hbox); have n2_ := Aside0.mk ((by rw [hg]; exact (below_size (by repeat (first | (with_reducible first | exact HB.out | apply below_alloc | apply pw_below_drewN | apply below_drew1) | exact HB.out))) : w.heap.size ≤ gb239)); have n3_ := Aside0.mk ((by rw [hg]; exact (below_size (by repeat (first | (with_reducible first | exact HB.out | apply below_alloc | apply pw_below_drewN | apply below_drew1) | exact HB.out))) : w.heap.size ≤ gb239)); clear HB; have HB := n0_; have BK239 := n1_; have GW239 := n2_; have GE239 := n3_; clear n0_ n1_ n2_ n3_; clear hb hbox hg; have hcz10_0 : w9.cell? ⟨gb239, 0, none⟩ = some (.int .i64 a0_0) := (blk_cell BK239.out 0).trans rfl; have hcz10_1 : w9.cell? ⟨gb239, 1, none⟩ = some (.int .i64 a0_1) := (blk_cell BK239.out 1).trans rfl; have hcz10_2 : w9.cell? ⟨gb239, 2, none⟩ = some (.string a0_2) := (blk_cell BK239.out 2).trans rfl; have hcz10_3 : w9.cell? ⟨gb239, 3, none⟩ = some (.slice A0_3 l0_3.length c0_3) := (blk_cell BK239.out 3).trans rfl; have hfz10_0 := blk_frozen BK239.out 0; have hfz10_1 := blk_frozen BK239.out 1; have hfz10_2 := blk_frozen BK239.out 2; have hfz10_3 := blk_frozen BK239.out 3) | ((with_reducible refine gate_callee (f := 21) rfl ?_); refine goesL_ (some 8) rfl rfl Tryd.func21 (by kernel_rfl) rfl #[.agg #[.int .i64 a0_0, .int .i64 a0_1, .string a0_2, .slice A0_3 l0_3.length c0_3], .int .i64 60] rfl (by (try simp only [List.map_toArray, List.map_cons, List.map_nil]); first | done | rfl | (simp only [List.length_drop, List.length_take]; rfl)) ?_; (with_reducible refine (jobshellref05_Small.calls k a0_0 a0_1 a0_2 _ _ l0_3 60 true _ ?side1 ?side2 A2.out).mono ?_); (case side1 => repeat (first | exact (Kd.C_below HR0_3.out HB.out) | (with_reducible refine Kd.C_alloc ?_ _) | (with_reducible refine Kd.C_drewN ?_ _) | (with_reducible refine Kd.C_drew ?_))); (case side2 => exact HC0_3.out); rintro e w11 ⟨rfl, hb⟩; refine ⟨_, rfl, ?_⟩; have n0_ := Aside0.mk (blk_below (g := gb239) (o := .cells #[.int .i64 a0_0, .int .i64 a0_1, .string a0_2, .slice A0_3 l0_3.length c0_3] 26 (0, 0)) (by (with_reducible repeat (first | refine blk_drewN ?_ _ | refine blk_drew ?_ | refine blk_alloc ?_ _)); exact BK239.out) hb); have n1_ := Aside0.mk (below_step (by repeat (first | (with_reducible first | exact HB.out | apply below_alloc | apply pw_below_drewN | apply below_drew1 | refine below_set ?_ GE239.out) | exact HB.out)) hb); clear BK239; clear HB; have BK239 := n0_; have HB := n1_; clear n0_ n1_; (try clear hb); (try clear hb2); (try clear hk); (try clear hi); have hcz12_0 : w11.cell? ⟨gb239, 0, none⟩ = some (.int .i64 a0_0) := (blk_cell BK239.out 0).trans rfl; have hcz12_1 : w11.cell? ⟨gb239, 1, none⟩ = some (.int .i64 a0_1) := (blk_cell BK239.out 1).trans rfl; have hcz12_2 : w11.cell? ⟨gb239, 2, none⟩ = some (.string a0_2) := (blk_cell BK239.out 2).trans rfl; have hcz12_3 : w11.cell? ⟨gb239, 3, none⟩ = some (.slice A0_3 l0_3.length c0_3) := (blk_cell BK239.out 3).trans rfl; have hfz12_0 := blk_frozen BK239.out 0; have hfz12_1 := blk_frozen BK239.out 1; have hfz12_2 := blk_frozen BK239.out 2; have hfz12_3 := blk_frozen BK239.out 3) | ((with_reducible refine gate_callee (f := 22) rfl ?_); refine goesL_ (some 13) rfl rfl Tryd.func22 (by kernel_rfl) rfl #[.agg #[.int .i64 a0_0, .int .i64 a0_1, .string a0_2, .slice A0_3 l0_3.length c0_3]] rfl (by (try simp only [List.map_toArray, List.map_cons, List.map_nil]); first | done | rfl | (simp only [List.length_drop, List.length_take]; rfl)) ?_; (with_reducible refine (arith_Show.calls k a0_0 a0_1 a0_2 _ _ l0_3 t241 t242 _ ?side1 ?side2 A4.out).mono ?_); (case side1 => repeat (first | exact (Kd.C_below HR0_3.out HB.out) | (with_reducible refine Kd.C_alloc ?_ _) | (with_reducible refine Kd.C_drewN ?_ _) | (with_reducible refine Kd.C_drew ?_))); (case side2 => exact HC0_3.out); rintro e w13 ⟨rfl, hb⟩; refine ⟨_, rfl, ?_⟩; have n0_ := Aside0.mk (blk_below (g := gb239) (o := .cells #[.int .i64 a0_0, .int .i64 a0_1, .string a0_2, .slice A0_3 l0_3.length c0_3] 26 (0, 0)) (by (with_reducible repeat (first | refine blk_drewN ?_ _ | refine blk_drew ?_ | refine blk_alloc ?_ _)); exact BK239.out) hb); have n1_ := Aside0.mk (below_step (by repeat (first | (with_reducible first | exact HB.out | apply below_alloc | apply pw_below_drewN | apply below_drew1 | refine below_set ?_ GE239.out) | exact HB.out)) hb); clear BK239; clear HB; have BK239 := n0_; have HB := n1_; clear n0_ n1_; (try clear hb); (try clear hb2); (try clear hk); (try clear hi); have hcz14_0 : w13.cell? ⟨gb239, 0, none⟩ = some (.int .i64 a0_0) := (blk_cell BK239.out 0).trans rfl; have hcz14_1 : w13.cell? ⟨gb239, 1, none⟩ = some (.int .i64 a0_1) := (blk_cell BK239.out 1).trans rfl; have hcz14_2 : w13.cell? ⟨gb239, 2, none⟩ = some (.string a0_2) := (blk_cell BK239.out 2).trans rfl; have hcz14_3 : w13.cell? ⟨gb239, 3, none⟩ = some (.slice A0_3 l0_3.length c0_3) := (blk_cell BK239.out 3).trans rfl; have hfz14_0 := blk_frozen BK239.out 0; have hfz14_1 := blk_frozen BK239.out 1; have hfz14_2 := blk_frozen BK239.out 2; have hfz14_3 := blk_frozen BK239.out 3) | ((with_reducible refine gate_callee (f := 23) rfl ?_); refine goesL_ (some 18) rfl rfl Tryd.func23 (by kernel_rfl) rfl #[.agg #[.int .i64 a0_0, .int .i64 a0_1, .string a0_2, .slice A0_3 l0_3.length c0_3]] rfl (by (try simp only [List.map_toArray, List.map_cons, List.map_nil]); first | done | rfl | (simp only [List.length_drop, List.length_take]; rfl)) ?_; (with_reducible refine (jobshellref05_Show.calls k a0_0 a0_1 a0_2 _ _ l0_3 t243 t244 _ ?side1 ?side2 A5.out).mono ?_); (case side1 => repeat (first | exact (Kd.C_below HR0_3.out HB.out) | (with_reducible refine Kd.C_alloc ?_ _) | (with_reducible refine Kd.C_drewN ?_ _) | (with_reducible refine Kd.C_drew ?_))); (case side2 => exact HC0_3.out); rintro e w15 ⟨rfl, hb⟩; refine ⟨_, rfl, ?_⟩; have n0_ := Aside0.mk (blk_below (g := gb239) (o := .cells #[.int .i64 a0_0, .int .i64 a0_1, .string a0_2, .slice A0_3 l0_3.length c0_3] 26 (0, 0)) (by (with_reducible repeat (first | refine blk_drewN ?_ _ | refine blk_drew ?_ | refine blk_alloc ?_ _)); exact BK239.out) hb); have n1_ := Aside0.mk (below_step (by repeat (first | (with_reducible first | exact HB.out | apply below_alloc | apply pw_below_drewN | apply below_drew1 | refine below_set ?_ GE239.out) | exact HB.out)) hb); clear BK239; clear HB; have BK239 := n0_; have HB := n1_; clear n0_ n1_; (try clear hb); (try clear hb2); (try clear hk); (try clear hi)) | (go_at_call 17; (with_reducible refine (jobshelllaw05_awake.calls k  t245 _ A8.out).mono ?_); rintro e w16 ⟨rfl, hb⟩; have n0_ := Aside0.mk (blk_below (g := gb239) (o := .cells #[.int .i64 a0_0, .int .i64 a0_1, .string a0_2, .slice A0_3 l0_3.length c0_3] 26 (0, 0)) (by (with_reducible repeat (first | refine blk_drewN ?_ _ | refine blk_drew ?_ | refine blk_alloc ?_ _)); exact BK239.out) hb); have n1_ := Aside0.mk (below_step (by repeat (first | (with_reducible first | exact HB.out | apply below_alloc | apply pw_below_drewN | apply below_drew1 | refine below_set ?_ GE239.out) | exact HB.out)) hb); clear BK239; clear HB; have BK239 := n0_; have HB := n1_; clear n0_ n1_; (try clear hb); (try clear hb2); (try clear hk); (try clear hi)))
 go_ret
 exact ⟨by first | rfl | (simp [errW_none, errW_some] <;> rfl) | (simp [*, errW_none, errW_some] <;> rfl), by repeat (first | (with_reducible first | exact HB.out | apply below_alloc | apply pw_below_drewN | apply below_drew1 | refine below_set ?_ GE239.out) | exact HB.out)⟩
end Go.Proofs.YtglmdfddgmkmaaaDoor.Q
end
section
namespace Go.Proofs.YtglmdfddgmkmaaaDoor.Q
open Go.RowKit Go.Proofs.YtglmdfddgmkmaaaDoorW.PrintWords
set_option linter.unusedVariables false
set_option linter.unusedSimpArgs false
abbrev sl (s : ByteArray) : List UInt8 := s.data.toList
def blkB (b : UInt8) : Bool := isBl (b.toNat : Int)
def wrdB (b : UInt8) : Bool := arith_wordByte.f (b.toNat : Int) == some true
def oprB (l : List UInt8) : Bool := arith_operator.f ⟨l.toArray⟩ == some true
def opL (r : List UInt8) : Nat → Nat
 | 0 => 0
 | k + 1 => if k = 0 ∨ oprB (r.take (k + 1)) = true then k + 1 else opL r k
def lexN (r : List UInt8) : Nat := if (r.takeWhile wrdB).length = 0 then opL r (min 3 r.length) else (r.takeWhile wrdB).length
def tk (L : List UInt8) : ByteArray := ⟨(L.take (lexN L)).toArray⟩
theorem sl_length (s : ByteArray) : (sl s).length = s.size := rfl
def Nb (s : ByteArray) (p : Nat) : Prop := ∃ i, i < p ∧ isBl (bt s i) = false
theorem Nb.mono {s : ByteArray} {p q : Nat} (h : Nb s p) (hpq : p ≤ q) : Nb s q := by
 obtain ⟨i, h1, h2⟩ := h
 exact ⟨i, by omega, h2⟩
end Go.Proofs.YtglmdfddgmkmaaaDoor.Q
end
section
namespace Go.Proofs.YtglmdfddgmkmaaaDoor.Q
open Go.RowKit Go.Proofs.YtglmdfddgmkmaaaDoorW.PrintWords
set_option linter.unusedVariables false
set_option linter.unusedSimpArgs false
def pl (s : ByteArray) (L : List UInt8) : Nat := s.size - L.length
def E (s : ByteArray) (gl : Gl) (L : List UInt8) (r : Except (Nat × Int) (S26 × Nat × ByteArray)) : Prop := ∃ k, pr s k gl (pl s L) (tk L) = some r
section
variable {s : ByteArray}
def Lo (n : Nat) (U : List UInt8) : Prop := ∃ o l, arith_binary.f (tk U) = some (o, l) ∧ l < (n : Int)
theorem Lo.mono {n m U} (h : Lo n U) (hnm : n ≤ m) : Lo m U := by
 obtain ⟨o, l, h1, h2⟩ := h
 exact ⟨o, l, h1, by omega⟩
end
def itoaL (n : Int) : List UInt8 := Lib.itoa n
def sgs : List (List UInt8) := [[], [], [], [45], [43], [33], [126], [42], [47], [37], [43], [45], [60, 60], [62, 62], [60], [62], [60, 61], [62, 61], [61, 61], [33, 61], [38], [94], [124], [38, 38], [124, 124]]
def sg (op : Int) : List UInt8 := sgs.getD op.toNat []
def hgt (op : Int) : Nat := ([0, 14, 14, 13, 13, 13, 13, 12, 12, 12, 11, 11, 10, 10, 9, 9, 9, 9, 8, 8, 7, 6, 5, 4, 3, 2, 1] : List Nat).getD op.toNat 0
def nil26 : S26 := ⟨0, 0, noName, []⟩
def kid (x : S26) (i : Nat) : S26 := x.f3.getD i nil26
def asg (n : Int) : List UInt8 := (if n = 0 then [] else sg n) ++ [61]
def showL : Nat → S26 → Nat → List UInt8
 | 0, _, _ => []
 | m + 1, x, least =>
  let body := if x.f0 = 26 then sl x.f2 ++ 32 :: (asg x.f1 ++ 32 :: showL m (kid x 0) 1)
   else if x.f0 = 25 then showL m (kid x 0) 3 ++ 32 :: 63 :: 32 :: (showL m (kid x 1) 1 ++ 32 :: 58 :: 32 :: showL m (kid x 2) 2)
   else if x.f0 = 1 then itoaL x.f1
   else if x.f0 = 2 then sl x.f2
   else if x.f0 ≤ 6 then sg x.f0 ++ showL m (kid x 0) 13
   else showL m (kid x 0) (hgt x.f0) ++ 32 :: (sg x.f0 ++ 32 :: showL m (kid x 1) (hgt x.f0 + 1))
  if hgt x.f0 < least then 40 :: (body ++ [41]) else body
def asgB (n : Int) : Bool := n == 0 || (decide (7 ≤ n) && decide (n ≤ 13)) || (decide (20 ≤ n) && decide (n ≤ 22))
inductive V : Nat → S26 → Prop where
 | num (m : Nat) (n : Int) : 0 ≤ n → n ≤ 9223372036854775807 → V (m + 1) ⟨1, n, noName, []⟩
 | var (m : Nat) (t : ByteArray) : nameB t = true → V (m + 1) ⟨2, 0, t, []⟩
 | un (m : Nat) (op : Int) (a : S26) : 3 ≤ op → op ≤ 6 → V m a → V (m + 1) ⟨op, 0, noName, [a]⟩
 | bin (m : Nat) (op : Int) (a b : S26) : 7 ≤ op → op ≤ 24 → V m a → V m b → V (m + 1) ⟨op, 0, noName, [a, b]⟩
 | cond (m : Nat) (a b c : S26) : V m a → V m b → V m c → V (m + 1) ⟨25, 0, noName, [a, b, c]⟩
 | set (m : Nat) (n : Int) (t : ByteArray) (a : S26) : asgB n = true → nameB t = true → V m a → V (m + 1) ⟨26, n, t, [a]⟩
def good (b : UInt8) : Prop := blkB b = false ∧ b ≠ 61
theorem bin_facts {op : Int} (h0 : 7 ≤ op) (h1 : op ≤ 24) : (∃ b l, sg op = b :: l ∧ blkB b = false ∧ wrdB b = false) ∧ (sg op).length ≤ 2 ∧ ((sg op).length = 1 ∨ oprB (sg op) = true) ∧ arith_binary.f ⟨(sg op).toArray⟩ = some (op, (hgt op : Int)) ∧ 3 ≤ hgt op ∧ hgt op ≤ 12 := by
 have : op = 7 ∨ op = 8 ∨ op = 9 ∨ op = 10 ∨ op = 11 ∨ op = 12 ∨ op = 13 ∨ op = 14 ∨ op = 15 ∨ op = 16 ∨ op = 17 ∨ op = 18 ∨ op = 19 ∨ op = 20 ∨ op = 21 ∨ op = 22 ∨ op = 23 ∨ op = 24 := by omega
 rcases this with rfl | rfl | rfl | rfl | rfl | rfl | rfl | rfl | rfl | rfl | rfl | rfl | rfl | rfl | rfl | rfl | rfl | rfl <;>
  refine ⟨⟨_, _, rfl, rfl, rfl⟩, by decide, by first | exact .inl rfl | exact .inr (by kernel_rfl), by kernel_rfl, by decide, by decide⟩
theorem un_facts {op : Int} (h0 : 3 ≤ op) (h1 : op ≤ 6) : ∃ b, sg op = [b] ∧ good b ∧ b ∈ ([45, 43, 33, 126] : List UInt8) ∧ arith_unary.f ⟨#[b]⟩ = some op ∧ hgt op = 13 := by
 have : op = 3 ∨ op = 4 ∨ op = 5 ∨ op = 6 := by omega
 rcases this with rfl | rfl | rfl | rfl <;> refine ⟨_, rfl, ⟨rfl, by decide⟩, by decide, by kernel_rfl, by decide⟩
theorem asg_facts {n : Int} (h : asgB n = true) : (∃ b l, asg n = b :: l ∧ blkB b = false ∧ wrdB b = false) ∧ (asg n).length ≤ 3 ∧ ((asg n).length = 1 ∨ oprB (asg n) = true) ∧ arith_assignment.f 1 ⟨(asg n).toArray⟩ = some (n, true) ∧ arith_binary.f ⟨(asg n).toArray⟩ = some (0, 0) := by
 have : n = 0 ∨ n = 7 ∨ n = 8 ∨ n = 9 ∨ n = 10 ∨ n = 11 ∨ n = 12 ∨ n = 13 ∨ n = 20 ∨ n = 21 ∨ n = 22 := by
  unfold asgB at h
  simp at h
  omega
 rcases this with rfl | rfl | rfl | rfl | rfl | rfl | rfl | rfl | rfl | rfl | rfl <;>
  refine ⟨⟨_, _, rfl, rfl, rfl⟩, by decide, by first | exact .inl rfl | exact .inr (by kernel_rfl), by kernel_rfl, by kernel_rfl⟩
theorem dd_step (u : Nat) (h : ¬ u < 10) : Lib.decDigits u = Lib.decDigits (u / 10) ++ [UInt8.ofNat (48 + u % 10)] := by
 rw [Lib.decDigits, dif_neg h]
theorem wrap_in {z : Int} (h0 : -9223372036854775808 ≤ z) (h1 : z ≤ 9223372036854775807) : wrap64 z = z := by
 simp only [wrap64, IntKind.wrap]
 omega
theorem itoa_eq {n : Int} (h0 : 0 ≤ n) : itoaL n = Lib.decDigits n.toNat := by
 unfold itoaL Lib.itoa
 rw [if_neg (by omega)]
def bodyL (m : Nat) (x : S26) : List UInt8 :=
 if x.f0 = 26 then sl x.f2 ++ 32 :: (asg x.f1 ++ 32 :: showL m (kid x 0) 1)
  else if x.f0 = 25 then showL m (kid x 0) 3 ++ 32 :: 63 :: 32 :: (showL m (kid x 1) 1 ++ 32 :: 58 :: 32 :: showL m (kid x 2) 2)
  else if x.f0 = 1 then itoaL x.f1
  else if x.f0 = 2 then sl x.f2
  else if x.f0 ≤ 6 then sg x.f0 ++ showL m (kid x 0) 13
  else showL m (kid x 0) (hgt x.f0) ++ 32 :: (sg x.f0 ++ 32 :: showL m (kid x 1) (hgt x.f0 + 1))
theorem showL_eq (m : Nat) (x : S26) (least : Nat) : showL (m + 1) x least = if hgt x.f0 < least then 40 :: (bodyL m x ++ [41]) else bodyL m x := rfl
theorem body_num (m : Nat) (n : Int) : bodyL m ⟨1, n, noName, []⟩ = itoaL n := rfl
theorem body_var (m : Nat) (t : ByteArray) : bodyL m ⟨2, 0, t, []⟩ = sl t := rfl
theorem body_un (m : Nat) (op : Int) (a : S26) (h0 : 3 ≤ op) (h1 : op ≤ 6) : bodyL m ⟨op, 0, noName, [a]⟩ = sg op ++ showL m a 13 := by
 unfold bodyL
 simp only
 rw [if_neg (by omega), if_neg (by omega), if_neg (by omega), if_neg (by omega), if_pos h1]
 rfl
theorem body_bin (m : Nat) (op : Int) (a b : S26) (h0 : 7 ≤ op) (h1 : op ≤ 24) : bodyL m ⟨op, 0, noName, [a, b]⟩ = showL m a (hgt op) ++ 32 :: (sg op ++ 32 :: showL m b (hgt op + 1)) := by
 unfold bodyL
 simp only
 rw [if_neg (by omega), if_neg (by omega), if_neg (by omega), if_neg (by omega), if_neg (by omega)]
 rfl
theorem body_cond (m : Nat) (a b c : S26) : bodyL m ⟨25, 0, noName, [a, b, c]⟩ = showL m a 3 ++ 32 :: 63 :: 32 :: (showL m b 1 ++ 32 :: 58 :: 32 :: showL m c 2) := rfl
theorem body_set (m : Nat) (n : Int) (t : ByteArray) (a : S26) : bodyL m ⟨26, n, t, [a]⟩ = sl t ++ 32 :: (asg n ++ 32 :: showL m a 1) := rfl
section
variable {s : ByteArray} {x : S26} {B : List UInt8}
end
end Go.Proofs.YtglmdfddgmkmaaaDoor.Q
end
section
namespace Go.Proofs.YtglmdfddgmkmaaaDoor.Q
open Go.RowKit Go.Proofs.YtglmdfddgmkmaaaDoorW.PrintWords
set_option linter.unusedVariables false
set_option linter.unusedSimpArgs false
theorem common {P : Nat → S26 → Prop} (up : ∀ k y, P k y → P (k + 1) y) : ∀ (l : List S26), (∀ y ∈ l, ∃ k, P k y) → ∃ K, ∀ k, K ≤ k → ∀ y ∈ l, P k y
 | [], _ => ⟨0, fun k _ y h => by cases h⟩
 | a :: l, h => by
  obtain ⟨K, hK⟩ := common up l (fun y hy => h y (List.mem_cons_of_mem _ hy))
  obtain ⟨j, hj⟩ := h a (List.mem_cons_self ..)
  have ups : ∀ n, j ≤ n → P n a := by
   intro n hn
   induction hn with
   | refl => exact hj
   | step _ ih => exact up _ _ ih
  refine ⟨K + j, fun k hk y hy => ?_⟩
  rcases List.mem_cons.mp hy with rfl | hy
  ·exact ups k (by omega)
  exact hK k (by omega) y hy
theorem rd_mem {xs : List S26} {i : Nat} (h : i < xs.length) : rd_T26 xs (i : Int) ∈ xs := by
 have : rd_T26 xs (i : Int) = xs[i] := by simp [rd_T26, List.getD_eq_getElem?_getD, h]
 rw [this]
 exact List.getElem_mem h
def kidsE (op : Int) : Int := if op = 1 ∨ op = 2 then 0 else if (3 ≤ op ∧ op ≤ 6) ∨ op = 26 then 1 else if 7 ≤ op ∧ op ≤ 24 then 2 else if op = 25 then 3 else -1
theorem arith_kids_eq (k : Nat) (op : Int) : arith_kids.f (k + 2) op = some (kidsE op) := by
 unfold arith_kids.f kidsE
 simp only [arith_kids.j0, arith_kids.j1]
 repeat' split
 all_goals first | rfl | (exfalso; simp_all; done) | (exfalso; simp_all; omega)
def asgE (n : Int) : Bool := n == 0 || (decide (7 ≤ n) && decide (n ≤ 13)) || (decide (20 ≤ n) && decide (n ≤ 22))
theorem assigns_eq (n : Int) : arith_assigns.f n = some (asgE n) := by
 unfold arith_assigns.f asgE
 repeat' split
 all_goals first | (simp_all; done) | (simp_all; omega)
def wordsAll (s : ByteArray) : Nat → Nat → Bool
 | 0, _ => true
 | f + 1, i => if (lett (bt s i) || dgt (bt s i) || bt s i == 95) = true then wordsAll s f (i + 1) else false
theorem words_names (s : ByteArray) : ∀ (f i : Nat), i + f = s.size → 0 < i → wordsAll s f i = nameAll s f i
 | 0, i, _, _ => rfl
 | f + 1, i, hi, h0 => by
  have e0 : nameAll s (f + 1) i = (nameC (bt s i) i && nameAll s f (i + 1)) := by rw [nameAll, if_pos (show i < s.size by omega)]
  rw [wordsAll, e0, words_names s f (i + 1) (by omega) (by omega)]
  have e : nameC (bt s i) i = (lett (bt s i) || dgt (bt s i) || bt s i == 95) := by
   unfold nameC
   simp [h0]
   cases lett (bt s i) <;> cases dgt (bt s i) <;> cases (bt s i == 95) <;> rfl
  rw [e]
  cases (lett (bt s i) || dgt (bt s i) || bt s i == 95) <;> rfl
def namedE (op : Int) : Bool := op == 2 || op == 26
def rightE (op n : Int) : Bool := if op = 1 then decide (n ≥ 0) else if op = 26 then asgE n else n == 0
def partE (op n : Int) (nm : ByteArray) (l : Nat) : Int :=
 if (decide (kidsE op = (l : Int)) && rightE op n && (namedE op == (nm.toList != []))) = true then (if (namedE op && !nameB nm) = true then 10 else 0) else 1
theorem arith_part_eq (k : Nat) (op n : Int) (nm : ByteArray) (l : List S26) : arith_part.f (k + 5) op n nm l = some (partE op n nm l.length) := by
 have h1 : ∀ b, arith_part.j0 (k + 5) b op n nm l = arith_part.j1 (k + 4) b (rightE op n) op n nm l := by
  intro b
  rw [arith_part.j0, assigns_eq]
  unfold rightE
  split
  ·rfl
  split <;> rfl
 have h2 : ∀ b c, arith_part.j1 (k + 4) b c op n nm l = arith_part.j2 (k + 3) b (!(decide (kidsE op = (l.length : Int)) && c && (b == (nm.toList != [])))) op n nm l := by
  intro b c
  rw [arith_part.j1, arith_kids_eq]
  simp only [Option.bind_some]
  split
  rotate_left
  ·rename_i h
   simp [h]
  rename_i h
  cases c
  ·simp
  simp only [if_true, h]
  cases b <;> cases (nm.toList != []) <;> simp
 have h3 : ∀ b c, arith_part.j2 (k + 3) b (!c) op n nm l = some (if c = true then (if (b && !nameB nm) = true then 10 else 0) else 1) := by
  intro b c
  rw [arith_part.j2]
  cases c
  ·simp
  cases b
  ·simp
  simp only [chars_Name.f, Option.bind_some]
  cases nameB nm <;> simp
 unfold arith_part.f partE
 have hn : namedE op = if op = 2 then true else (op == 26) := by
  unfold namedE
  split <;> simp_all
 by_cases h : op = 2
 ·rw [if_pos h, h1, h2, h3, hn, if_pos h]
 rw [if_neg h, h1, h2, h3, hn, if_neg h]
def firstE (g : S26 → Int) : List S26 → Int
 | [] => 0
 | y :: ys => if g y = 0 then firstE g ys else g y
def validE : Nat → S26 → Int
 | 0, _ => 5
 | m + 1, x => if partE x.f0 x.f1 x.f2 x.f3.length = 0 then firstE (validE m) x.f3 else partE x.f0 x.f1 x.f2 x.f3.length
theorem part_len {op n : Int} {nm : ByteArray} {l : Nat} (h : partE op n nm l = 0) : l ≤ 3 := by
 unfold partE at h
 split at h
 ·rename_i hc
  have hk : kidsE op = (l : Int) := by simp at hc; exact hc.1.1
  unfold kidsE at hk
  repeat' split at hk
  all_goals omega
 omega
theorem rd_at {xs ys : List S26} {y : S26} {i : Nat} (h : xs.drop i = y :: ys) : rd_T26 xs (i : Int) = y ∧ i < xs.length ∧ xs.drop (i + 1) = ys := by
 have hi : i < xs.length := by
  rcases Nat.lt_or_ge i xs.length with h1 | h1
  ·exact h1
  rw [List.drop_eq_nil_of_le h1] at h
  simp at h
 rw [List.drop_eq_getElem_cons hi] at h
 simp only [List.cons.injEq] at h
 refine ⟨?_, hi, h.2⟩
 simp [rd_T26, List.getD_eq_getElem?_getD, hi, h.1]
theorem wrap_succ {i : Nat} (h : i < 1000) : wrap64 ((i : Int) + 1) = ((i + 1 : Nat) : Int) := by
 simp only [wrap64, IntKind.wrap]
 omega
theorem arith_valid_eq : ∀ (m : Nat) (x : S26) (k : Nat), m ≤ 32 → 10 * m + 10 ≤ k → arith_valid.f k x.f0 x.f1 x.f2 x.f3 ((32 - m : Nat) : Int) = some (validE m x)
 | 0, x, k, _, hk => by
  obtain ⟨k, rfl⟩ : ∃ k', k = k' + 1 := ⟨k - 1, by omega⟩
  rw [arith_valid.f, if_pos (by omega)]
  rfl
 | m + 1, x, k, hm, hk => by
  obtain ⟨k, rfl⟩ : ∃ k', k = k' + 6 := ⟨k - 6, by omega⟩
  have hl : ∀ (ys : List S26) (i n : Nat), x.f3.drop i = ys → x.f3.length ≤ 3 → i ≤ 3 → ys.length + (10 * m + 10) + 1 ≤ n → arith_valid.l0 n ((32 - (m + 1) : Nat) : Int) x.f3 (x.f3.length : Int) (i : Int) = some (firstE (validE m) ys) := by
   intro ys
   induction ys with
   | nil =>
    intro i n hd h3 hi hn
    obtain ⟨n, rfl⟩ : ∃ k', n = k' + 1 := ⟨n - 1, by omega⟩
    have : x.f3.length ≤ i := by
     have := congrArg List.length hd
     simp at this
     omega
    rw [arith_valid.l0, if_neg (by omega)]
    rfl
   | cons y ys ih =>
    intro i n hd h3 hi hn
    obtain ⟨n, rfl⟩ : ∃ k', n = k' + 1 := ⟨n - 1, by omega⟩
    obtain ⟨e1, e2, e3⟩ := rd_at hd
    simp only [List.length_cons] at hn
    rw [arith_valid.l0, if_pos (by omega), if_pos (by omega), if_pos (by omega), e1]
    have hw : wrap64 (((32 - (m + 1) : Nat) : Int) + 1) = ((32 - m : Nat) : Int) := by
     simp only [wrap64, IntKind.wrap]
     omega
    rw [hw, arith_valid_eq m y n (by omega) (by omega), wrap_succ (by omega)]
    simp only [Option.bind_some]
    unfold firstE
    split
    ·exact ih (i + 1) n e3 h3 (by omega) (by omega)
    rfl
  rw [arith_valid.f, if_neg (by omega), arith_part_eq]
  simp only [Option.bind_some]
  unfold validE
  split
  rotate_left
  ·rfl
  rename_i hp
  exact hl x.f3 0 (k + 5) rfl (part_len hp) (by omega) (by have := part_len hp; omega)
abbrev ofL (l : List UInt8) : ByteArray := ⟨l.toArray⟩
theorem ofL_app (a b : List UInt8) : ofL a ++ ofL b = ofL (a ++ b) := by
 apply ByteArray.ext
 rw [ByteArray.data_append]
 simp
theorem ofL_size (a : List UInt8) : (ofL a).size = a.length := rfl
theorem sign_eq {op : Int} (h0 : 0 ≤ op) (h1 : op ≤ 24) : arith_sign.f op = some (ofL (sg op)) := by
 have : op = 0 ∨ op = 1 ∨ op = 2 ∨ op = 3 ∨ op = 4 ∨ op = 5 ∨ op = 6 ∨ op = 7 ∨ op = 8 ∨ op = 9 ∨ op = 10 ∨ op = 11 ∨ op = 12 ∨ op = 13 ∨ op = 14 ∨ op = 15 ∨ op = 16 ∨ op = 17 ∨ op = 18 ∨ op = 19 ∨ op = 20 ∨ op = 21 ∨ op = 22 ∨ op = 23 ∨ op = 24 := by omega
 rcases this with rfl | rfl | rfl | rfl | rfl | rfl | rfl | rfl | rfl | rfl | rfl | rfl | rfl | rfl | rfl | rfl | rfl | rfl | rfl | rfl | rfl | rfl | rfl | rfl | rfl <;> rfl
theorem height_eq (k : Nat) {op : Int} (h0 : 1 ≤ op) (h1 : op ≤ 26) : arith_height.f (k + 3) op = some (hgt op : Int) := by
 have j1f : ∀ k, arith_height.j1 (k + 1) op true = some 13 := fun k => by rw [arith_height.j1, if_pos rfl]
 by_cases hb : 7 ≤ op ∧ op ≤ 24
 rotate_left
 ·have : op = 1 ∨ op = 2 ∨ op = 3 ∨ op = 4 ∨ op = 5 ∨ op = 6 ∨ op = 25 ∨ op = 26 := by omega
  rcases this with rfl | rfl | rfl | rfl | rfl | rfl | rfl | rfl
  all_goals
   unfold arith_height.f
   simp [arith_height.j0, arith_height.j1, hgt]
 obtain ⟨f1, f2, f3, f4, f5, f6⟩ := bin_facts hb.1 hb.2
 have hj : arith_height.j1 (k + 2) op false = some (hgt op : Int) := by
  rw [arith_height.j1, if_neg (by simp), sign_eq (by omega) (by omega), Option.bind_some, f4, Option.bind_some]
 have e : ∀ n : Int, n < 7 → (op == n) = false := fun n hn => by simp; omega
 unfold arith_height.f
 rw [if_neg (by omega), if_neg (by omega), if_neg (by omega), arith_height.j0, e 2 (by omega), if_neg (by simp), if_neg (by omega), if_neg (by omega), if_neg (by omega), e 6 (by omega)]
 exact hj
theorem name_len {t : ByteArray} (h : nameB t = true) : t.size ≤ 32 := by
 unfold nameB at h
 simp only [Bool.and_eq_true, decide_eq_true_eq] at h
 exact h.1.2
theorem dd_len : ∀ (d u : Nat), u < 10 ^ (d + 1) → (Lib.decDigits u).length ≤ d + 1
 | 0, u, h => by rw [Lib.decDigits_one (by omega)]; simp
 | d + 1, u, h => by
  by_cases hu : u < 10
  ·rw [Lib.decDigits_one hu]; simp
  have := dd_len d (u / 10) (by rw [Nat.pow_succ] at h; omega)
  rw [dd_step u hu, List.length_append]
  simp
  omega
theorem itoa_len {n : Int} (h0 : 0 ≤ n) (h1 : n ≤ 9223372036854775807) : (itoaL n).length ≤ 19 := by
 rw [itoa_eq h0]
 exact dd_len 18 n.toNat (by
  have : (10 : Nat) ^ (18 + 1) = 10000000000000000000 := by decide
  omega)
theorem asg_len {n : Int} (h : asgB n = true) : (asg n).length ≤ 3 := (asg_facts h).2.1
theorem showL_le (m : Nat) (x : S26) (n : Nat) : (showL (m + 1) x n).length ≤ (bodyL m x).length + 2 := by
 rw [showL_eq]
 split
 ·simp
 omega
theorem show_len : ∀ {m : Nat} {x : S26}, V m x → ∀ n, (showL m x n).length + 30 ≤ 60 * 3 ^ m := by
 intro m x h
 induction h with
 | num m n h0 h1 =>
  intro l
  have h2 := showL_le m ⟨1, n, noName, []⟩ l
  rw [body_num] at h2
  have h3 := itoa_len h0 h1
  have h4 : 1 ≤ 3 ^ m := Nat.one_le_pow _ _ (by decide)
  rw [Nat.pow_succ]
  omega
 | var m t h =>
  intro l
  have h2 := showL_le m ⟨2, 0, t, []⟩ l
  rw [body_var, sl_length] at h2
  have h3 := name_len h
  have h4 : 1 ≤ 3 ^ m := Nat.one_le_pow _ _ (by decide)
  rw [Nat.pow_succ]
  omega
 | un m op a h0 h1 _ ih =>
  intro l
  have h2 := showL_le m ⟨op, 0, noName, [a]⟩ l
  obtain ⟨b, h3, _⟩ := un_facts h0 h1
  rw [body_un _ _ _ h0 h1, h3] at h2
  have h4 := ih 13
  simp only [List.length_append, List.length_cons, List.length_nil] at h2
  rw [Nat.pow_succ]
  omega
 | bin m op a b h0 h1 _ _ iha ihb =>
  intro l
  have h2 := showL_le m ⟨op, 0, noName, [a, b]⟩ l
  obtain ⟨_, h3, _⟩ := bin_facts h0 h1
  rw [body_bin _ _ _ _ h0 h1] at h2
  have h4 := iha (hgt op)
  have h5 := ihb (hgt op + 1)
  simp only [List.length_append, List.length_cons] at h2
  rw [Nat.pow_succ]
  omega
 | cond m a b c _ _ _ iha ihb ihc =>
  intro l
  have h2 := showL_le m ⟨25, 0, noName, [a, b, c]⟩ l
  rw [body_cond] at h2
  have h4 := iha 3
  have h5 := ihb 1
  have h6 := ihc 2
  simp only [List.length_append, List.length_cons] at h2
  rw [Nat.pow_succ]
  omega
 | set m n t a h0 h1 _ ih =>
  intro l
  have h2 := showL_le m ⟨26, n, t, [a]⟩ l
  rw [body_set] at h2
  have h3 := asg_len h0
  have h4 := ih 1
  have h5 := name_len h1
  simp only [List.length_append, List.length_cons, sl_length] at h2
  rw [Nat.pow_succ]
  omega
theorem show_j0 (k : Nat) (least h : Nat) (B : List UInt8) (hB : B.length ≤ 9000000000000000000) : arith_show.j0 (k + 1) (least : Int) (h : Int) (ofL B) = some (ofL (if h < least then 40 :: (B ++ [41]) else B)) := by
 have h1 : ((⟨#[40]⟩ : ByteArray) ++ ofL B).size = 1 + B.length := by rw [ByteArray.size_append]; rfl
 have h2 : (ofL B).size = B.length := rfl
 rw [arith_show.j0]
 by_cases hc : h < least
 rotate_left
 ·rw [if_neg (by omega), if_neg hc]
 rw [if_pos (by omega), if_pos hc, if_pos (by omega), if_pos (by omega), show (⟨#[40]⟩ : ByteArray) = ofL [40] from rfl, show (⟨#[41]⟩ : ByteArray) = ofL [41] from rfl, ofL_app, ofL_app]
 rfl
theorem show_is : ∀ {m : Nat} {x : S26}, V m x → m ≤ 32 → ∀ (k least : Nat), 5 * m + 5 ≤ k → arith_show.f k x.f0 x.f1 x.f2 x.f3 (least : Int) = some (ofL (showL m x least)) := by
 intro m x h
 have p32 : ∀ m, m ≤ 32 → 60 * 3 ^ m ≤ 120000000000000000 := by
  intro m hm
  have h1 : (3 : Nat) ^ m ≤ 3 ^ 32 := Nat.pow_le_pow_right (by decide) hm
  have h2 : (3 : Nat) ^ 32 = 1853020188851841 := by decide
  omega
 have body_le : ∀ {m : Nat} {x : S26}, V (m + 1) x → m + 1 ≤ 32 → (bodyL m x).length ≤ 120000000000000000 := by
  intro m x hV hm
  have h1 := show_len hV 0
  have h2 := p32 (m + 1) hm
  have h3 : (bodyL m x).length ≤ (showL (m + 1) x 0).length := by
   rw [showL_eq]
   split
   rotate_left
   ·omega
   simp
   omega
  omega
 induction h with
 | num m n h0 h1 =>
  intro hm k least hk
  obtain ⟨k, rfl⟩ : ∃ j, k = j + 4 := ⟨k - 4, by omega⟩
  have hb := body_le (V.num m n h0 h1) hm
  rw [body_num] at hb
  have hi : strconv_Itoa_81.f n = some (ofL (itoaL n)) := by
   unfold strconv_Itoa_81.f
   rw [if_pos ⟨by omega, by omega⟩]
   rfl
  show arith_show.f (k + 4) 1 n noName [] (least : Int) = _
  have hj := show_j0 (k + 2) least 14 (itoaL n) (by omega)
  rw [showL_eq, body_num, arith_show.f, height_eq k (by omega) (by omega), Option.bind_some, show (hgt 1 : Int) = 14 from rfl, if_neg (by omega), if_neg (by omega), if_neg (by omega), if_pos rfl, if_pos rfl, hi, Option.bind_some]
  exact hj
 | var m t h =>
  intro hm k least hk
  obtain ⟨k, rfl⟩ : ∃ j, k = j + 4 := ⟨k - 4, by omega⟩
  have hb := body_le (V.var m t h) hm
  rw [body_var] at hb
  have hj := show_j0 (k + 2) least 14 (sl t) (by omega)
  show arith_show.f (k + 4) 2 0 t [] (least : Int) = _
  rw [showL_eq, body_var, arith_show.f, height_eq k (by omega) (by omega), Option.bind_some, show (hgt 2 : Int) = 14 from rfl, if_neg (by omega), if_neg (by omega), if_neg (by omega), if_pos rfl, if_neg (by omega)]
  exact hj
 | un m op a h0 h1 hv ih =>
  intro hm k least hk
  obtain ⟨k, rfl⟩ : ∃ j, k = j + 4 := ⟨k - 4, by omega⟩
  have hb := body_le (V.un m op a h0 h1 hv) hm
  obtain ⟨b, f1, f2, f3, f4, f5⟩ := un_facts h0 h1
  have hr := ih (by omega) (k + 3) 13 (by omega)
  have e : bodyL m ⟨op, 0, noName, [a]⟩ = sg op ++ showL m a 13 := body_un m op a h0 h1
  rw [e] at hb
  have hsz : (ofL (sg op)).size + (ofL (showL m a 13)).size ≤ 9223372036854775807 := by
   rw [List.length_append] at hb
   rw [ofL_size, ofL_size]
   omega
  have hj := show_j0 (k + 2) least 13 (sg op ++ showL m a 13) (by omega)
  have hrd : rd_T26 [a] 0 = a := rfl
  have hh : (hgt op : Int) = 13 := by rw [f5]; rfl
  show arith_show.f (k + 4) op 0 noName [a] (least : Int) = _
  rw [showL_eq, e, arith_show.f, height_eq k (by omega) (by omega), Option.bind_some, hh, if_neg (by omega), if_neg (by omega), if_pos rfl, sign_eq (by omega) (by omega), Option.bind_some, if_pos (by simp), hrd, show (13 : Int) = ((13 : Nat) : Int) from rfl, hr, Option.bind_some, if_pos hsz, ofL_app]
  show arith_show.j0 (k + 3) (least : Int) ((13 : Nat) : Int) _ = some (ofL (if hgt op < least then _ else _))
  rw [f5]
  exact hj
 | bin m op a b h0 h1 ha hb iha ihb =>
  intro hm k least hk
  obtain ⟨k, rfl⟩ : ∃ j, k = j + 4 := ⟨k - 4, by omega⟩
  have hB := body_le (V.bin m op a b h0 h1 ha hb) hm
  obtain ⟨f1, f2, f3, f4, f5, f6⟩ := bin_facts h0 h1
  have hr := iha (by omega) (k + 3) (hgt op) (by omega)
  have hr2 := ihb (by omega) (k + 3) (hgt op + 1) (by omega)
  have e : bodyL m ⟨op, 0, noName, [a, b]⟩ = (((showL m a (hgt op) ++ [32]) ++ sg op) ++ [32]) ++ showL m b (hgt op + 1) := by rw [body_bin m op a b h0 h1]; simp
  rw [e] at hB
  have hrd : rd_T26 [a, b] 0 = a := rfl
  have hrd2 : rd_T26 [a, b] 1 = b := rfl
  have hj := show_j0 (k + 2) least (hgt op) _ (show ((((showL m a (hgt op) ++ [32]) ++ sg op) ++ [32]) ++ showL m b (hgt op + 1)).length ≤ 9000000000000000000 by omega)
  have hl := hB
  simp only [List.length_append, List.length_cons, List.length_nil] at hl
  have hw : wrap64 ((hgt op : Int) + 1) = ((hgt op + 1 : Nat) : Int) := by rw [wrap_in (by omega) (by omega)]; omega
  have s32 : (⟨#[32]⟩ : ByteArray) = ofL [32] := rfl
  have q1 : (ofL (showL m a (hgt op))).size + 1 ≤ 9223372036854775807 := by rw [ofL_size]; omega
  have q2 : (ofL (showL m a (hgt op) ++ [32])).size + (ofL (sg op)).size ≤ 9223372036854775807 := by rw [ofL_size, ofL_size, List.length_append]; simp only [List.length_cons, List.length_nil]; omega
  have q3 : (ofL ((showL m a (hgt op) ++ [32]) ++ sg op)).size + 1 ≤ 9223372036854775807 := by rw [ofL_size, List.length_append, List.length_append]; simp only [List.length_cons, List.length_nil]; omega
  have q4 : (ofL (((showL m a (hgt op) ++ [32]) ++ sg op) ++ [32])).size + (ofL (showL m b (hgt op + 1))).size ≤ 9223372036854775807 := by rw [ofL_size, ofL_size]; simp only [List.length_append, List.length_cons, List.length_nil]; omega
  have n1 : ¬ (hgt op : Int) = 1 := by omega
  have n2 : ¬ (hgt op : Int) = 2 := by omega
  have n3 : ¬ (hgt op : Int) = 13 := by omega
  have n4 : ¬ (hgt op : Int) = 14 := by omega
  show arith_show.f (k + 4) op 0 noName [a, b] (least : Int) = _
  rw [showL_eq, e, arith_show.f, height_eq k (by omega) (by omega), Option.bind_some, if_neg n1, if_neg n2, if_neg n3, if_neg n4, if_pos (by simp), hrd, hr, Option.bind_some, if_pos q1, sign_eq (by omega) (by omega), Option.bind_some, s32, ofL_app, if_pos q2, ofL_app, if_pos q3, if_pos (by simp), hrd2, hw, hr2, Option.bind_some, ofL_app, if_pos q4, ofL_app]
  exact hj
 | cond m a b c ha hb hc iha ihb ihc =>
  intro hm k least hk
  obtain ⟨k, rfl⟩ : ∃ j, k = j + 4 := ⟨k - 4, by omega⟩
  have hB := body_le (V.cond m a b c ha hb hc) hm
  have hr : arith_show.f (k + 3) a.f0 a.f1 a.f2 a.f3 3 = _ := iha (by omega) (k + 3) 3 (by omega)
  have hr2 : arith_show.f (k + 3) b.f0 b.f1 b.f2 b.f3 1 = _ := ihb (by omega) (k + 3) 1 (by omega)
  have hr3 : arith_show.f (k + 3) c.f0 c.f1 c.f2 c.f3 2 = _ := ihc (by omega) (k + 3) 2 (by omega)
  have e : bodyL m ⟨25, 0, noName, [a, b, c]⟩ = (((showL m a 3 ++ [32, 63, 32]) ++ showL m b 1) ++ [32, 58, 32]) ++ showL m c 2 := by rw [body_cond m a b c]; simp
  rw [e] at hB
  have hrd : rd_T26 [a, b, c] 0 = a := rfl
  have hrd2 : rd_T26 [a, b, c] 1 = b := rfl
  have hrd3 : rd_T26 [a, b, c] 2 = c := rfl
  have hj := show_j0 (k + 2) least 2 _ (show ((((showL m a 3 ++ [32, 63, 32]) ++ showL m b 1) ++ [32, 58, 32]) ++ showL m c 2).length ≤ 9000000000000000000 by omega)
  have hl := hB
  simp only [List.length_append, List.length_cons, List.length_nil] at hl
  have s1 : (⟨#[32, 63, 32]⟩ : ByteArray) = ofL [32, 63, 32] := rfl
  have s2 : (⟨#[32, 58, 32]⟩ : ByteArray) = ofL [32, 58, 32] := rfl
  have q1 : (ofL (showL m a 3)).size + 3 ≤ 9223372036854775807 := by rw [ofL_size]; omega
  have q2 : (ofL (showL m a 3 ++ [32, 63, 32])).size + (ofL (showL m b 1)).size ≤ 9223372036854775807 := by rw [ofL_size, ofL_size, List.length_append]; simp only [List.length_cons, List.length_nil]; omega
  have q3 : (ofL ((showL m a 3 ++ [32, 63, 32]) ++ showL m b 1)).size + 3 ≤ 9223372036854775807 := by rw [ofL_size, List.length_append, List.length_append]; simp only [List.length_cons, List.length_nil]; omega
  have q4 : (ofL (((showL m a 3 ++ [32, 63, 32]) ++ showL m b 1) ++ [32, 58, 32])).size + (ofL (showL m c 2)).size ≤ 9223372036854775807 := by rw [ofL_size, ofL_size]; simp only [List.length_append, List.length_cons, List.length_nil]; omega
  show arith_show.f (k + 4) 25 0 noName [a, b, c] (least : Int) = _
  rw [showL_eq, e, arith_show.f, height_eq k (by omega) (by omega), Option.bind_some, show (hgt 25 : Int) = 2 from rfl, if_neg (by omega), if_pos rfl, if_pos (by simp), hrd, hr, Option.bind_some, if_pos q1, if_pos (by simp), hrd2, hr2, Option.bind_some, s1, ofL_app, if_pos q2, ofL_app, if_pos q3, if_pos (by simp), hrd3, hr3, Option.bind_some, s2, ofL_app, if_pos q4, ofL_app]
  exact hj
 | set m n t a h0 h1 hv ih =>
  intro hm k least hk
  obtain ⟨k, rfl⟩ : ∃ j, k = j + 4 := ⟨k - 4, by omega⟩
  have hB := body_le (V.set m n t a h0 h1 hv) hm
  have hr : arith_show.f (k + 3) a.f0 a.f1 a.f2 a.f3 1 = _ := ih (by omega) (k + 3) 1 (by omega)
  let S : List UInt8 := if n = 0 then [] else sg n
  have e : bodyL m ⟨26, n, t, [a]⟩ = (((sl t ++ [32]) ++ S) ++ [61, 32]) ++ showL m a 1 := by rw [body_set m n t a]; simp [asg, S]
  rw [e] at hB
  have hrd : rd_T26 [a] 0 = a := rfl
  have hj := show_j0 (k + 2) least 1 _ (show ((((sl t ++ [32]) ++ S) ++ [61, 32]) ++ showL m a 1).length ≤ 9000000000000000000 by omega)
  have hl := hB
  simp only [List.length_append, List.length_cons, List.length_nil] at hl
  have s1 : (⟨#[32]⟩ : ByteArray) = ofL [32] := rfl
  have s2 : (⟨#[61, 32]⟩ : ByteArray) = ofL [61, 32] := rfl
  have s3 : t = ofL (sl t) := rfl
  have q1 : (ofL (sl t)).size + 1 ≤ 9223372036854775807 := by rw [ofL_size]; omega
  have q2 : (ofL (sl t ++ [32])).size + (ofL S).size ≤ 9223372036854775807 := by rw [ofL_size, ofL_size, List.length_append]; simp only [List.length_cons, List.length_nil]; omega
  have q3 : (ofL ((sl t ++ [32]) ++ S)).size + 2 ≤ 9223372036854775807 := by rw [ofL_size, List.length_append, List.length_append]; simp only [List.length_cons, List.length_nil]; omega
  have q4 : (ofL (((sl t ++ [32]) ++ S) ++ [61, 32])).size + (ofL (showL m a 1)).size ≤ 9223372036854775807 := by rw [ofL_size, ofL_size]; simp only [List.length_append, List.length_cons, List.length_nil]; omega
  show arith_show.f (k + 4) 26 n (ofL (sl t)) [a] (least : Int) = _
  rw [showL_eq, e, arith_show.f, height_eq k (by omega) (by omega), Option.bind_some, show (hgt 26 : Int) = 1 from rfl, if_pos rfl]
  by_cases hn : n = 0
  ·have eS : S = [] := by simp [S, hn]
   have s4 : (⟨#[]⟩ : ByteArray) = ofL S := by rw [eS]
   rw [if_pos hn, s1, s4, if_pos q1, ofL_app, if_pos (by have := q2; rw [eS] at this; exact this), ofL_app, if_pos q3, if_pos (by simp), hrd, hr, Option.bind_some, s2, ofL_app, if_pos q4, ofL_app]
   exact hj
  have eS : S = sg n := by simp [S, hn]
  have hs : arith_sign.f n = some (ofL S) := by
   rw [eS]
   unfold asgB at h0
   simp at h0
   exact sign_eq (by omega) (by omega)
  rw [if_neg hn, hs, Option.bind_some, if_pos q1, s1, ofL_app, if_pos q2, ofL_app, if_pos q3, if_pos (by simp), hrd, hr, Option.bind_some, s2, ofL_app, if_pos q4, ofL_app]
  exact hj
theorem firstE_zero {g : S26 → Int} : ∀ l : List S26, firstE g l = 0 → ∀ y ∈ l, g y = 0
 | [], _, y, hy => absurd hy (by simp)
 | a :: l, h, y, hy => by
  simp only [firstE] at h
  by_cases ha : g a = 0
  rotate_left
  ·rw [if_neg ha] at h
   exact absurd h ha
  rw [if_pos ha] at h
  rcases List.mem_cons.mp hy with rfl | hy
  ·exact ha
  exact firstE_zero l h y hy
theorem no_name {nm : ByteArray} (h : nm.toList = []) : nm = noName := by
 rw [Go.ByteArray.toList_eq] at h
 apply ByteArray.ext
 rw [← Array.toArray_toList (xs := nm.data), h]
 rfl
theorem part_zero {op n : Int} {nm : ByteArray} {l : Nat} (h : partE op n nm l = 0) : kidsE op = (l : Int) ∧ rightE op n = true ∧ (namedE op = true → nameB nm = true) ∧ (namedE op = false → nm = noName) := by
 unfold partE at h
 split at h
 ·rename_i hc
  simp only [Bool.and_eq_true, decide_eq_true_eq, beq_iff_eq] at hc
  obtain ⟨⟨h1, h2⟩, h3⟩ := hc
  split at h
  ·simp at h
  rename_i hn
  refine ⟨h1, h2, fun h4 => ?_, fun h4 => ?_⟩
  ·rw [h4] at hn
   simpa using hn
  rw [h4] at h3
  have : nm.toList = [] := by
   have h5 := h3.symm
   simpa [bne] using h5
  exact no_name this
 omega
theorem valid_V : ∀ (m : Nat) (x : S26), Fine x → validE m x = 0 → V m x
 | 0, x, _, h => by simp [validE] at h
 | m + 1, x, hF, h => by
  cases hF with
  | mk _ h0 h1 h2 h3 h4 h5 h6 =>
  simp only [validE] at h
  split at h
  ·rename_i hp
   obtain ⟨p1, p2, p3, p4⟩ := part_zero hp
   have hk : ∀ y ∈ x.f3, V m y := fun y hy => valid_V m y (h6 y hy) (firstE_zero _ h y hy)
   cases x with
   | mk op n nm l =>
   simp only at *
   by_cases o1 : op = 1
   ·subst o1
    have hl : l = [] := List.eq_nil_of_length_eq_zero (by simp [kidsE] at p1; omega)
    have hn := p4 (by decide)
    have hz : 0 ≤ n := by simp [rightE] at p2; exact p2
    subst hl hn
    exact V.num m n hz h3
   by_cases o2 : op = 2
   ·subst o2
    have hl : l = [] := List.eq_nil_of_length_eq_zero (by simp [kidsE] at p1; omega)
    have hn := p3 (by decide)
    have hz : n = 0 := by simp [rightE] at p2; exact p2
    subst hl hz
    exact V.var m nm hn
   by_cases o26 : op = 26
   ·subst o26
    have hl : l.length = 1 := by simp [kidsE] at p1; omega
    have hn := p3 (by decide)
    have hz : asgE n = true := by simp [rightE] at p2; exact p2
    match l, hl with
    | [a], _ => exact V.set m n nm a hz hn (hk a (by simp))
   have hn : nm = noName := p4 (by simp [namedE, o2, o26])
   have hz : n = 0 := by simp [rightE, o1, o26] at p2; exact p2
   subst hn hz
   by_cases o6 : 3 ≤ op ∧ op ≤ 6
   ·have hl : l.length = 1 := by
     unfold kidsE at p1
     rw [if_neg (by omega), if_pos (by omega)] at p1
     omega
    match l, hl with
    | [a], _ => exact V.un m op a o6.1 o6.2 (hk a (by simp))
   by_cases o24 : 7 ≤ op ∧ op ≤ 24
   ·have hl : l.length = 2 := by
     unfold kidsE at p1
     rw [if_neg (by omega), if_neg (by omega), if_pos (by omega)] at p1
     omega
    match l, hl with
    | [a, b], _ => exact V.bin m op a b o24.1 o24.2 (hk a (by simp)) (hk b (by simp))
   by_cases o25 : op = 25
   ·subst o25
    have hl : l.length = 3 := by simp [kidsE] at p1; omega
    match l, hl with
    | [a, b, c], _ => exact V.cond m a b c (hk a (by simp)) (hk b (by simp)) (hk c (by simp))
   exfalso
   unfold kidsE at p1
   rw [if_neg (by omega), if_neg (by omega), if_neg (by omega), if_neg (by omega)] at p1
   omega
  rename_i hp
  exact absurd h hp
theorem size_up {x : S26} {k n r} (h : k ≤ n) (hr : arith_size.f k x.f0 x.f1 x.f2 x.f3 = some r) : arith_size.f n x.f0 x.f1 x.f2 x.f3 = some r := by
 induction h with
 | refl => exact hr
 | step _ ih => exact arith_size.mono _ _ _ _ _ _ ih
theorem Valid_is (x : S26) (k : Nat) (hk : 400 ≤ k) : arith_Valid.f k x.f0 x.f1 x.f2 x.f3 = some (validE 32 x) := by
 unfold arith_Valid.f
 have h1 := arith_valid_eq 32 x k (by omega) (by omega)
 rw [show ((32 - 32 : Nat) : Int) = 0 from rfl] at h1
 rw [h1]
 rfl
def Bd : Nat → S26 → Prop
 | 0, _ => False
 | d + 1, x => x.f3.length ≤ 60 ∧ x.f2.size ≤ 60 ∧ ∀ y ∈ x.f3, Bd d y
def cnt : Nat → S26 → Nat
 | 0, _ => 0
 | d + 1, x => 1 + (x.f3.map (cnt d)).sum
def SmallGood (n : Nat) : Prop := ∀ (x : S26) (a : Int) (k : Nat), -1 ≤ a → a ≤ 60 → 80 * n + 3 ≤ k → ∃ r, jobshellref05_small.f k x.f0 x.f1 x.f2 x.f3 a (n : Int) = some r ∧ -1 ≤ r ∧ (r ≤ a - 1 ∨ r = -1) ∧ (0 ≤ r → Bd n x ∧ (cnt n x : Int) + r = a)
theorem wrap_is {z : Int} (h0 : -9223372036854775808 ≤ z) (h1 : z ≤ 9223372036854775807) : wrap64 z = z := by
 simp only [wrap64, IntKind.wrap]
 omega
theorem rd_drop {xs : List S26} {i : Nat} (h : i < xs.length) : xs.drop i = rd_T26 xs (i : Int) :: xs.drop (i + 1) := by
 rw [List.drop_eq_getElem_cons h]
 simp [rd_T26, List.getD_eq_getElem?_getD, h]
theorem cnt_pos (n : Nat) (x : S26) (h : Bd n x) : 1 ≤ cnt n x := by
 cases n with
 | zero => exact h.elim
 | succ n => simp [cnt]
theorem sum_ge {f : S26 → Nat} : ∀ l : List S26, (∀ y ∈ l, 1 ≤ f y) → l.length ≤ (l.map f).sum
 | [], _ => by simp
 | a :: l, h => by
  have h1 := sum_ge l (fun y hy => h y (List.mem_cons_of_mem _ hy))
  have h2 := h a (List.mem_cons_self ..)
  simp
  omega
theorem good_loop (n : Nat) (hn : n ≤ 40) (ih : SmallGood n) (x : S26) : ∀ (c : Nat) (b : Int) (i m : Nat), -1 ≤ b → b + 1 ≤ c → (i : Int) + b ≤ 60 → c + (80 * n + 3) + 2 ≤ m → ∃ r, jobshellref05_small.l0 m b ((n + 1 : Nat) : Int) (i : Int) x.f0 x.f1 x.f2 x.f3 = some r ∧ -1 ≤ r ∧ r ≤ b ∧ (0 ≤ r → (∀ y ∈ x.f3.drop i, Bd n y) ∧ (((x.f3.drop i).map (cnt n)).sum : Int) + r = b) := by
 intro c
 induction c with
 | zero =>
  intro b i m hb0 hb1 hi hm
  obtain ⟨m, rfl⟩ : ∃ k', m = k' + 1 := ⟨m - 1, by omega⟩
  rw [jobshellref05_small.l0]
  have hb : ¬ b ≥ 0 := by omega
  by_cases hlt : (i : Int) < (x.f3.length : Int)
  ·rw [if_pos hlt, if_neg hb]
   exact ⟨b, rfl, hb0, Int.le_refl _, fun h => absurd h hb⟩
  rw [if_neg hlt]
  exact ⟨b, rfl, hb0, Int.le_refl _, fun h => absurd h hb⟩
 | succ c ihc =>
  intro b i m hb0 hb1 hi hm
  obtain ⟨m, rfl⟩ : ∃ k', m = k' + 1 := ⟨m - 1, by omega⟩
  rw [jobshellref05_small.l0]
  by_cases hlt : (i : Int) < (x.f3.length : Int)
  rotate_left
  ·rw [if_neg hlt]
   refine ⟨b, rfl, hb0, Int.le_refl _, fun h => ?_⟩
   rw [List.drop_eq_nil_of_le (by omega)]
   exact ⟨fun y hy => absurd hy (by simp), by simp⟩
  rw [if_pos hlt]
  by_cases hb : b ≥ 0
  rotate_left
  ·rw [if_neg hb]
   exact ⟨b, rfl, hb0, Int.le_refl _, fun h => absurd h hb⟩
  have hi0 : (0 : Int) ≤ (i : Int) := Int.natCast_nonneg i
  rw [if_pos hb, if_pos hi0]
  have hw : wrap64 (((n + 1 : Nat) : Int) - 1) = (n : Int) := by
   rw [wrap_is (by omega) (by omega)]
   omega
  obtain ⟨t, ht, ht0, ht1, ht2⟩ := ih (rd_T26 x.f3 i) b m hb0 (by omega) (by omega)
  rw [hw, ht, Option.bind_some]
  have hw2 : wrap64 ((i : Int) + 1) = ((i + 1 : Nat) : Int) := by
   rw [wrap_is (by omega) (by omega)]
   omega
  rw [hw2]
  obtain ⟨r, hr, hr0, hr1, hr2⟩ := ihc t (i + 1) m ht0 (by omega) (by omega) (by omega)
  refine ⟨r, hr, hr0, by omega, fun h0 => ?_⟩
  obtain ⟨g1, g2⟩ := hr2 h0
  obtain ⟨g3, g4⟩ := ht2 (by omega)
  rw [rd_drop (show i < x.f3.length by omega)]
  refine ⟨fun y hy => ?_, ?_⟩
  ·rcases List.mem_cons.mp hy with rfl | hy
   ·exact g3
   exact g1 y hy
  simp only [List.map_cons, List.sum_cons]
  omega
theorem good_j0 (k : Nat) (a l : Int) (x : S26) : jobshellref05_small.j0 (k + 1) a l true x.f0 x.f1 x.f2 x.f3 = some (-1) := by
 rw [jobshellref05_small.j0, if_pos rfl]
theorem good_step (n : Nat) (hn : n < 40) (ih : SmallGood n) : SmallGood (n + 1) := by
 intro x a k h0 h1 hk
 obtain ⟨k, rfl⟩ : ∃ k', k = k' + 2 := ⟨k - 2, by omega⟩
 rw [jobshellref05_small.f]
 by_cases ha : a < 1
 ·rw [if_pos ha, good_j0]
  exact ⟨-1, rfl, Int.le_refl _, .inr rfl, fun h => by omega⟩
 have hl : ¬ (((n + 1 : Nat) : Int) < 1) := by omega
 rw [if_neg ha, if_neg hl]
 cases hd : decide ((x.f2.size : Int) > 60)
 ·rw [jobshellref05_small.j0, if_neg Bool.false_ne_true, wrap_is (show -9223372036854775808 ≤ a - 1 by omega) (by omega)]
  obtain ⟨r, hr, hr0, hr1, hr2⟩ := good_loop n (by omega) ih x 60 (a - 1) 0 k (by omega) (by omega) (by omega) (by omega)
  refine ⟨r, hr, hr0, .inl hr1, fun h => ?_⟩
  obtain ⟨g1, g2⟩ := hr2 h
  rw [List.drop_zero] at g1 g2
  have hle := sum_ge x.f3 (fun y hy => cnt_pos n y (g1 y hy))
  have hsz : ¬ ((x.f2.size : Int) > 60) := of_decide_eq_false hd
  refine ⟨⟨by omega, by omega, g1⟩, ?_⟩
  simp only [cnt]
  omega
 rw [good_j0]
 exact ⟨-1, rfl, Int.le_refl _, .inr rfl, fun h => by omega⟩
theorem good_zero : SmallGood 0 := by
 intro x a k h0 h1 hk
 obtain ⟨k, rfl⟩ : ∃ k', k = k' + 2 := ⟨k - 2, by omega⟩
 rw [jobshellref05_small.f]
 refine ⟨-1, ?_, Int.le_refl _, .inr rfl, fun h => by omega⟩
 split
 ·rw [good_j0]
 rw [if_pos (by omega), good_j0]
theorem good_at : ∀ n : Nat, n ≤ 40 → SmallGood n
 | 0, _ => good_zero
 | n + 1, h => good_step n (by omega) (good_at n (by omega))
theorem Small_told (x : S26) (k : Nat) (hk : 3300 ≤ k) : ∃ b, jobshellref05_Small.f k x.f0 x.f1 x.f2 x.f3 60 = some b ∧ (b = true → Bd 40 x ∧ cnt 40 x ≤ 60) := by
 obtain ⟨r, hr, _, _, hr2⟩ := good_at 40 (Nat.le_refl _) x 60 k (by omega) (by omega) (by omega)
 unfold jobshellref05_Small.f
 rw [show ((40 : Nat) : Int) = 40 from rfl] at hr
 rw [hr]
 refine ⟨_, rfl, fun h => ?_⟩
 have h0 : 0 ≤ r := by simpa using h
 obtain ⟨h1, h2⟩ := hr2 h0
 exact ⟨h1, by omega⟩
theorem awake_big (k : Nat) (hk : 60 ≤ k) : jobshelllaw05_awake.f k = some true := awake_up 60 k true awake_eval hk
theorem size_node (m : Nat) (x : S26) (hl : x.f3.length ≤ 3) (hc : cnt (m + 1) x ≤ 4096) (h : ∀ y ∈ x.f3, cnt m y ≤ 4096 → ∃ k, arith_size.f k y.f0 y.f1 y.f2 y.f3 = some (cnt m y : Int)) : ∃ k, arith_size.f k x.f0 x.f1 x.f2 x.f3 = some (cnt (m + 1) x : Int) := by
 have mem : ∀ (l : List S26) (y : S26), y ∈ l → cnt m y ≤ (l.map (cnt m)).sum := by
  intro l
  induction l with
  | nil => intro y hy; exact absurd hy (by simp)
  | cons a l ih =>
   intro y hy
   simp only [List.map_cons, List.sum_cons]
   rcases List.mem_cons.mp hy with rfl | hy
   ·omega
   have := ih y hy
   omega
 simp only [cnt] at hc
 obtain ⟨K, hK⟩ := common (P := fun k y => arith_size.f k y.f0 y.f1 y.f2 y.f3 = some (cnt m y : Int)) (fun k y h => arith_size.mono _ _ _ _ _ _ h) x.f3 (fun y hy => h y hy (by have := mem x.f3 y hy; omega))
 have loop : ∀ (d i a : Nat), i + d = x.f3.length → a + ((x.f3.drop i).map (cnt m)).sum ≤ 4096 → arith_size.l0 (K + d + 1) (a : Int) x.f3 (x.f3.length : Int) (i : Int) = some ((a + ((x.f3.drop i).map (cnt m)).sum : Nat) : Int) := by
  intro d
  induction d with
  | zero =>
   intro i a hi ha
   rw [arith_size.l0, if_neg (by omega), List.drop_eq_nil_of_le (by omega)]
   rfl
  | succ d ihd =>
   intro i a hi ha
   have hlt : i < x.f3.length := by omega
   have hn := hK (K + (d + 1)) (by omega) (rd_T26 x.f3 (i : Int)) (rd_mem hlt)
   have hw : wrap64 ((i : Int) + 1) = ((i + 1 : Nat) : Int) := by rw [wrap_in (by omega) (by omega)]; omega
   rw [rd_drop hlt] at ha ⊢
   simp only [List.map_cons, List.sum_cons] at ha ⊢
   have hw2 : wrap64 ((a : Int) + (cnt m (rd_T26 x.f3 (i : Int)) : Int)) = ((a + cnt m (rd_T26 x.f3 (i : Int)) : Nat) : Int) := by rw [wrap_in (by omega) (by omega)]; omega
   rw [arith_size.l0, if_pos (by omega), if_pos (by omega), if_pos (by omega), if_neg (by omega), hn, Option.bind_some, hw, hw2, show K + (d + 1) = K + d + 1 by omega, ihd (i + 1) _ (by omega) (by omega), Nat.add_assoc]
 have hn := loop x.f3.length 0 1 (by omega) (by rw [List.drop_zero]; omega)
 rw [show ((0 : Nat) : Int) = 0 from rfl, List.drop_zero, show ((1 : Nat) : Int) = 1 from rfl] at hn
 exact ⟨K + x.f3.length + 1 + 1, by rw [arith_size.f]; exact hn⟩
theorem size_V {m : Nat} {x : S26} (h : V m x) : cnt m x ≤ 4096 → ∃ k, arith_size.f k x.f0 x.f1 x.f2 x.f3 = some (cnt m x : Int) := by
 induction h with
 | num m n _ _ => exact fun hc => size_node m _ (Nat.zero_le _) hc (fun y h => by cases h)
 | var m t _ => exact fun hc => size_node m _ (Nat.zero_le _) hc (fun y h => by cases h)
 | un m op a _ _ _ ih => exact fun hc => size_node m _ (by simp) hc (fun z hz => by simp at hz; exact hz ▸ ih)
 | bin m op a b _ _ _ _ h1 h2 => exact fun hc => size_node m _ (by simp) hc (fun z hz => by simp at hz; rcases hz with rfl | rfl; exact h1; exact h2)
 | cond m a b c _ _ _ h1 h2 h3 => exact fun hc => size_node m _ (by simp) hc (fun w hw => by simp at hw; rcases hw with rfl | rfl | rfl; exact h1; exact h2; exact h3)
 | set m n t a _ _ _ ih => exact fun hc => size_node m _ (by simp) hc (fun z hz => by simp at hz; exact hz ▸ ih)
theorem level_eq (k : Nat) {op : Int} (h0 : 1 ≤ op) (h1 : op ≤ 26) : jobshellref05_Level.f (k + 5) op = some (hgt op : Int) := by
 have : op = 1 ∨ op = 2 ∨ op = 3 ∨ op = 4 ∨ op = 5 ∨ op = 6 ∨ op = 7 ∨ op = 8 ∨ op = 9 ∨ op = 10 ∨ op = 11 ∨ op = 12 ∨ op = 13 ∨ op = 14 ∨ op = 15 ∨ op = 16 ∨ op = 17 ∨ op = 18 ∨ op = 19 ∨ op = 20 ∨ op = 21 ∨ op = 22 ∨ op = 23 ∨ op = 24 ∨ op = 25 ∨ op = 26 := by omega
 rcases this with rfl | rfl | rfl | rfl | rfl | rfl | rfl | rfl | rfl | rfl | rfl | rfl | rfl | rfl | rfl | rfl | rfl | rfl | rfl | rfl | rfl | rfl | rfl | rfl | rfl | rfl
 all_goals
  unfold jobshellref05_Level.f
  simp [jobshellref05_Level.j0, jobshellref05_Level.j1, jobshellref05_Level.j2, jobshellref05_Level.j3, jobshellref05_Level.j4, hgt]
def signOk (op : Int) : Bool := decide (jobshellref05_sign.f op = some (ofL (sg op)))
theorem sign_all : ([3, 4, 5, 6, 7, 8, 9, 10, 11, 12, 13, 14, 15, 16, 17, 18, 19, 20, 21, 22, 23, 24] : List Int).all signOk = true := by kernel_rfl
theorem refsign_eq {op : Int} (h0 : 3 ≤ op) (h1 : op ≤ 24) : jobshellref05_sign.f op = some (ofL (sg op)) := by
 have hm : op ∈ ([3, 4, 5, 6, 7, 8, 9, 10, 11, 12, 13, 14, 15, 16, 17, 18, 19, 20, 21, 22, 23, 24] : List Int) := by
  simp only [List.mem_cons, List.not_mem_nil, or_false]
  omega
 exact of_decide_eq_true (List.all_eq_true.mp sign_all op hm)
theorem u64_in {z : Int} (h0 : 0 ≤ z) (h1 : z < 18446744073709551616) : IntKind.u64.wrap z = z := by
 have e : (2 : Int) ^ IntKind.u64.bits = 18446744073709551616 := by rfl
 have e2 : IntKind.u64.signed = false := rfl
 simp only [IntKind.wrap, e, e2, Bool.false_and, Bool.false_eq_true, if_false]
 omega
theorem one_num (c : Nat) (h : c < 256) : strOfNums [(c : Int)] = ofL [UInt8.ofNat c] := by
 simp [strOfNums]
theorem digits_loop : ∀ (d u : Nat) (out : List UInt8) (k : Nat), u < 10 ^ (d + 1) → u < 18446744073709551616 → d + 1 ≤ k → out.length + d ≤ 4096 → jobshellref05_digits.l0 k (u : Int) (ofL out) = some (ofL (Lib.decDigits u ++ out)) := by
 intro d
 induction d with
 | zero =>
  intro u out k hu hm hk ho
  obtain ⟨k, rfl⟩ : ∃ j, k = j + 1 := ⟨k - 1, by omega⟩
  have hz : (ofL [UInt8.ofNat (48 + u)]).size + (ofL out).size ≤ 9223372036854775807 := by rw [ofL_size, ofL_size]; simp; omega
  have hc : IntKind.u64.wrap (48 + (u : Int)) % 256 = ((48 + u : Nat) : Int) := by rw [u64_in (by omega) (by omega)]; omega
  rw [jobshellref05_digits.l0, if_neg (by omega), Option.bind_some, hc, one_num _ (by omega), if_pos hz, ofL_app, Lib.decDigits_one (by omega)]
 | succ d ih =>
  intro u out k hu hm hk ho
  obtain ⟨k, rfl⟩ : ∃ j, k = j + 1 := ⟨k - 1, by omega⟩
  by_cases h9 : u < 10
  ·have hz : (ofL [UInt8.ofNat (48 + u)]).size + (ofL out).size ≤ 9223372036854775807 := by rw [ofL_size, ofL_size]; simp; omega
   have hc : IntKind.u64.wrap (48 + (u : Int)) % 256 = ((48 + u : Nat) : Int) := by rw [u64_in (by omega) (by omega)]; omega
   rw [jobshellref05_digits.l0, if_neg (by omega), Option.bind_some, hc, one_num _ (by omega), if_pos hz, ofL_app, Lib.decDigits_one h9]
  have hz : (ofL [UInt8.ofNat (48 + u % 10)]).size + (ofL out).size ≤ 9223372036854775807 := by rw [ofL_size, ofL_size]; simp; omega
  have ht : Int.tmod (u : Int) 10 = ((u % 10 : Nat) : Int) := by rw [Int.tmod_eq_emod_of_nonneg (by omega)]; omega
  have hq : Int.tdiv (u : Int) 10 = ((u / 10 : Nat) : Int) := by rw [Int.tdiv_eq_ediv_of_nonneg (by omega)]; omega
  have hc : IntKind.u64.wrap (48 + ((u % 10 : Nat) : Int)) % 256 = ((48 + u % 10 : Nat) : Int) := by rw [u64_in (by omega) (by omega)]; omega
  have hc2 : IntKind.u64.wrap ((u / 10 : Nat) : Int) = ((u / 10 : Nat) : Int) := u64_in (by omega) (by omega)
  have hp : u / 10 < 10 ^ (d + 1) := by rw [Nat.pow_succ] at hu; omega
  rw [jobshellref05_digits.l0, if_pos (by omega), Option.bind_some, ht, hc, one_num _ (by omega), if_pos hz, ofL_app, hq, hc2, ih (u / 10) _ k hp (by omega) (by omega) (by simp; omega), dd_step u h9, List.append_assoc]
theorem decimal_eq (k : Nat) (hk : 20 ≤ k) {n : Int} (h0 : 0 ≤ n) (h1 : n ≤ 9223372036854775807) : jobshellref05_Decimal.f k n = some (ofL (itoaL n)) := by
 have hp : (10 : Nat) ^ (18 + 1) = 10000000000000000000 := by decide
 have h := digits_loop 18 n.toNat [] k (by omega) (by omega) (by omega) (by simp)
 rw [show ((n.toNat : Nat) : Int) = n by omega, List.append_nil, ← itoa_eq h0] at h
 unfold jobshellref05_Decimal.f jobshellref05_digits.f
 rw [if_neg (by omega), u64_in h0 (by omega)]
 rw [show (⟨#[]⟩ : ByteArray) = ofL [] from rfl, h, Option.bind_some]
theorem opnd_at (s : Sh05) (m : Nat) (x : S26) (hx0 : 1 ≤ x.f0) (hx1 : x.f0 ≤ 26) (k level : Nat) (hB : (bodyL m x).length ≤ 9000000000000000000) (h : s.f (k + 5) x.f0 x.f1 x.f2 x.f3 = some (ofL (bodyL m x))) : @opndS.f s (k + 5) x.f0 x.f1 x.f2 x.f3 (level : Int) = some (ofL (showL (m + 1) x level)) := by
 have h1 : ((⟨#[40]⟩ : ByteArray) ++ ofL (bodyL m x)).size = 1 + (bodyL m x).length := by rw [ByteArray.size_append]; rfl
 have h2 : (ofL (bodyL m x)).size = (bodyL m x).length := rfl
 have h' : @shw05.f s (k + 5) x.f0 x.f1 x.f2 x.f3 = some (ofL (bodyL m x)) := h
 unfold opndS.f
 rw [level_eq k hx0 hx1, Option.bind_some, showL_eq]
 by_cases hc : hgt x.f0 < level
 ·rw [if_pos (by omega), if_pos hc, h', Option.bind_some, if_pos (by omega), if_pos (by omega), show (⟨#[40]⟩ : ByteArray) = ofL [40] from rfl, show (⟨#[41]⟩ : ByteArray) = ofL [41] from rfl, ofL_app, ofL_app]
  rfl
 rw [if_neg (by omega), if_neg hc, h']
 rfl
theorem V_op {m : Nat} {x : S26} (h : V m x) : 1 ≤ x.f0 ∧ x.f0 ≤ 26 ∧ 1 ≤ m := by
 cases h <;> simp only <;> omega
theorem body_small {m : Nat} {x : S26} (hV : V (m + 1) x) (hm : m + 1 ≤ 32) : (bodyL m x).length ≤ 120000000000000000 := by
 have h1 := show_len hV 0
 have h2 : (3 : Nat) ^ (m + 1) ≤ 3 ^ 32 := Nat.pow_le_pow_right (by decide) hm
 have h4 : (3 : Nat) ^ 32 = 1853020188851841 := by decide
 have h3 : (bodyL m x).length ≤ (showL (m + 1) x 0).length := by
  rw [showL_eq]
  split
  rotate_left
  ·omega
  simp
  omega
 omega
theorem kid_at (s : Sh05) {m : Nat} {a : S26} (hV : V m a) (hm : m ≤ 32) (k level : Nat) (hk : 5 ≤ k) (h : s.f k a.f0 a.f1 a.f2 a.f3 = some (ofL (bodyL (m - 1) a))) : @opnd05.f (opOf s) k a.f0 a.f1 a.f2 a.f3 (level : Int) = some (ofL (showL m a level)) := by
 obtain ⟨h1, h2, h3⟩ := V_op hV
 obtain ⟨m, rfl⟩ : ∃ j, m = j + 1 := ⟨m - 1, by omega⟩
 obtain ⟨k, rfl⟩ : ∃ j, k = j + 5 := ⟨k - 5, by omega⟩
 have hb := body_small hV hm
 exact opnd_at s m a h1 h2 k level (by omega) h
theorem refshow : ∀ {m : Nat} {x : S26}, V m x → m ≤ 32 → ∀ n k, m ≤ n → 2 * m + 60 ≤ k → (lev05 n).s.f k x.f0 x.f1 x.f2 x.f3 = some (ofL (bodyL (m - 1) x)) := by
 intro m x h
 induction h with
 | num m v h0 h1 =>
  intro hm n k hn hk
  obtain ⟨n, rfl⟩ : ∃ j, n = j + 1 := ⟨n - 1, by omega⟩
  obtain ⟨k, rfl⟩ : ∃ j, k = j + 5 := ⟨k - 5, by omega⟩
  show @showO.f (opOf (lev05 n).s) (k + 5) 1 v noName [] = some (ofL (bodyL m ⟨1, v, noName, []⟩))
  unfold showO.f
  rw [level_eq k (by omega) (by omega), Option.bind_some, if_pos rfl, decimal_eq (k + 5) (by omega) h0 h1, Option.bind_some, body_num]
 | var m t h =>
  intro hm n k hn hk
  obtain ⟨n, rfl⟩ : ∃ j, n = j + 1 := ⟨n - 1, by omega⟩
  obtain ⟨k, rfl⟩ : ∃ j, k = j + 5 := ⟨k - 5, by omega⟩
  show @showO.f (opOf (lev05 n).s) (k + 5) 2 0 t [] = some (ofL (bodyL m ⟨2, 0, t, []⟩))
  unfold showO.f
  rw [level_eq k (by omega) (by omega), Option.bind_some, if_neg (by omega), if_pos rfl, body_var]
 | un m op a h0 h1 hv ih =>
  intro hm n k hn hk
  obtain ⟨n, rfl⟩ : ∃ j, n = j + 1 := ⟨n - 1, by omega⟩
  obtain ⟨k, rfl⟩ : ∃ j, k = j + 5 := ⟨k - 5, by omega⟩
  obtain ⟨b, f1, f2, f3, f4, f5⟩ := un_facts h0 h1
  have e : bodyL m ⟨op, 0, noName, [a]⟩ = sg op ++ showL m a 13 := body_un m op a h0 h1
  have hb := body_small (V.un m op a h0 h1 hv) hm
  rw [e, List.length_append] at hb
  have hr : @opnd05.f (opOf (lev05 n).s) (k + 5) a.f0 a.f1 a.f2 a.f3 13 = _ := kid_at (lev05 n).s hv (by omega) (k + 5) 13 (by omega) (ih (by omega) n (k + 5) (by omega) (by omega))
  have hrd : rd_T26 [a] 0 = a := rfl
  have hh : (hgt op : Int) = 13 := by rw [f5]; rfl
  have hsz : (ofL (sg op)).size + (ofL (showL m a 13)).size ≤ 9223372036854775807 := by rw [ofL_size, ofL_size]; omega
  show @showO.f (opOf (lev05 n).s) (k + 5) op 0 noName [a] = some (ofL (bodyL m ⟨op, 0, noName, [a]⟩))
  unfold showO.f
  rw [level_eq k (by omega) (by omega), Option.bind_some, if_neg (by omega), if_neg (by omega), if_pos hh, refsign_eq (by omega) (by omega), Option.bind_some, if_pos (by simp), hrd, hr, Option.bind_some, if_pos hsz, ofL_app, e]
 | bin m op a b h0 h1 ha hb iha ihb =>
  intro hm n k hn hk
  obtain ⟨n, rfl⟩ : ∃ j, n = j + 1 := ⟨n - 1, by omega⟩
  obtain ⟨k, rfl⟩ : ∃ j, k = j + 6 := ⟨k - 6, by omega⟩
  obtain ⟨f1, f2, f3, f4, f5, f6⟩ := bin_facts h0 h1
  have hB := body_small (V.bin m op a b h0 h1 ha hb) hm
  have e : bodyL m ⟨op, 0, noName, [a, b]⟩ = (((showL m a (hgt op) ++ [32]) ++ sg op) ++ [32]) ++ showL m b (hgt op + 1) := by rw [body_bin m op a b h0 h1]; simp
  rw [e] at hB
  have hrd : rd_T26 [a, b] 0 = a := rfl
  have hrd2 : rd_T26 [a, b] 1 = b := rfl
  have hl := hB
  simp only [List.length_append, List.length_cons, List.length_nil] at hl
  have hr := kid_at (lev05 n).s ha (by omega) (k + 5) (hgt op) (by omega) (iha (by omega) n (k + 5) (by omega) (by omega))
  have hr2 := kid_at (lev05 n).s hb (by omega) (k + 5) (hgt op + 1) (by omega) (ihb (by omega) n (k + 5) (by omega) (by omega))
  have hw : wrap64 ((hgt op : Int) + 1) = ((hgt op + 1 : Nat) : Int) := by rw [wrap_in (by omega) (by omega)]; omega
  have s32 : (⟨#[32]⟩ : ByteArray) = ofL [32] := rfl
  have q1 : (ofL (showL m a (hgt op))).size + 1 ≤ 9223372036854775807 := by rw [ofL_size]; omega
  have q2 : (ofL (showL m a (hgt op) ++ [32])).size + (ofL (sg op)).size ≤ 9223372036854775807 := by rw [ofL_size, ofL_size, List.length_append]; simp only [List.length_cons, List.length_nil]; omega
  have q3 : (ofL ((showL m a (hgt op) ++ [32]) ++ sg op)).size + 1 ≤ 9223372036854775807 := by rw [ofL_size, List.length_append, List.length_append]; simp only [List.length_cons, List.length_nil]; omega
  have q4 : (ofL (((showL m a (hgt op) ++ [32]) ++ sg op) ++ [32])).size + (ofL (showL m b (hgt op + 1))).size ≤ 9223372036854775807 := by rw [ofL_size, ofL_size]; simp only [List.length_append, List.length_cons, List.length_nil]; omega
  have n3 : ¬ (hgt op : Int) = 13 := by omega
  show @showO.f (opOf (lev05 n).s) (k + 6) op 0 noName [a, b] = some (ofL (bodyL m ⟨op, 0, noName, [a, b]⟩))
  unfold showO.f
  rw [level_eq (k + 1) (by omega) (by omega), Option.bind_some, if_neg (by omega), if_neg (by omega), if_neg n3, if_neg (by omega)]
  unfold showO.j0
  dsimp only
  rw [if_neg Bool.false_ne_true, if_neg (by omega), if_neg (by omega), if_pos (by simp), hrd, hr, Option.bind_some, if_pos q1, refsign_eq (by omega) (by omega), Option.bind_some, s32, ofL_app, if_pos q2, ofL_app, if_pos q3, if_pos (by simp), hrd2, hw, hr2, Option.bind_some, ofL_app, if_pos q4, ofL_app, e]
 | cond m a b c ha hb hc iha ihb ihc =>
  intro hm n k hn hk
  obtain ⟨n, rfl⟩ : ∃ j, n = j + 1 := ⟨n - 1, by omega⟩
  obtain ⟨k, rfl⟩ : ∃ j, k = j + 6 := ⟨k - 6, by omega⟩
  have hB := body_small (V.cond m a b c ha hb hc) hm
  have e : bodyL m ⟨25, 0, noName, [a, b, c]⟩ = (((showL m a 3 ++ [32, 63, 32]) ++ showL m b 1) ++ [32, 58, 32]) ++ showL m c 2 := by rw [body_cond m a b c]; simp
  rw [e] at hB
  have hrd : rd_T26 [a, b, c] 0 = a := rfl
  have hrd2 : rd_T26 [a, b, c] 1 = b := rfl
  have hrd3 : rd_T26 [a, b, c] 2 = c := rfl
  have hl := hB
  simp only [List.length_append, List.length_cons, List.length_nil] at hl
  have hr : @opnd05.f (opOf (lev05 n).s) (k + 5) a.f0 a.f1 a.f2 a.f3 3 = _ := kid_at (lev05 n).s ha (by omega) (k + 5) 3 (by omega) (iha (by omega) n (k + 5) (by omega) (by omega))
  have hr2 : @opnd05.f (opOf (lev05 n).s) (k + 5) b.f0 b.f1 b.f2 b.f3 1 = _ := kid_at (lev05 n).s hb (by omega) (k + 5) 1 (by omega) (ihb (by omega) n (k + 5) (by omega) (by omega))
  have hr3 : @opnd05.f (opOf (lev05 n).s) (k + 5) c.f0 c.f1 c.f2 c.f3 2 = _ := kid_at (lev05 n).s hc (by omega) (k + 5) 2 (by omega) (ihc (by omega) n (k + 5) (by omega) (by omega))
  have s1 : (⟨#[32, 63, 32]⟩ : ByteArray) = ofL [32, 63, 32] := rfl
  have s2 : (⟨#[32, 58, 32]⟩ : ByteArray) = ofL [32, 58, 32] := rfl
  have q1 : (ofL (showL m a 3)).size + 3 ≤ 9223372036854775807 := by rw [ofL_size]; omega
  have q2 : (ofL (showL m a 3 ++ [32, 63, 32])).size + (ofL (showL m b 1)).size ≤ 9223372036854775807 := by rw [ofL_size, ofL_size, List.length_append]; simp only [List.length_cons, List.length_nil]; omega
  have q3 : (ofL ((showL m a 3 ++ [32, 63, 32]) ++ showL m b 1)).size + 3 ≤ 9223372036854775807 := by rw [ofL_size, List.length_append, List.length_append]; simp only [List.length_cons, List.length_nil]; omega
  have q4 : (ofL (((showL m a 3 ++ [32, 63, 32]) ++ showL m b 1) ++ [32, 58, 32])).size + (ofL (showL m c 2)).size ≤ 9223372036854775807 := by rw [ofL_size, ofL_size]; simp only [List.length_append, List.length_cons, List.length_nil]; omega
  show @showO.f (opOf (lev05 n).s) (k + 6) 25 0 noName [a, b, c] = some (ofL (bodyL m ⟨25, 0, noName, [a, b, c]⟩))
  unfold showO.f
  rw [level_eq (k + 1) (by omega) (by omega), Option.bind_some, if_neg (by omega), if_neg (by omega), show (hgt 25 : Int) = 2 from rfl, if_neg (by omega), if_neg (by omega)]
  unfold showO.j0
  dsimp only
  rw [if_neg Bool.false_ne_true, if_neg (by omega), if_pos rfl, if_pos (by simp), hrd, hr, Option.bind_some, if_pos q1, if_pos (by simp), hrd2, hr2, Option.bind_some, s1, ofL_app, if_pos q2, ofL_app, if_pos q3, if_pos (by simp), hrd3, hr3, Option.bind_some, s2, ofL_app, if_pos q4, ofL_app, e]
 | set m v t a h0 h1 hv ih =>
  intro hm n k hn hk
  obtain ⟨n, rfl⟩ : ∃ j, n = j + 1 := ⟨n - 1, by omega⟩
  obtain ⟨k, rfl⟩ : ∃ j, k = j + 6 := ⟨k - 6, by omega⟩
  have hB := body_small (V.set m v t a h0 h1 hv) hm
  have hr : @opnd05.f (opOf (lev05 n).s) (k + 5) a.f0 a.f1 a.f2 a.f3 1 = _ := kid_at (lev05 n).s hv (by omega) (k + 5) 1 (by omega) (ih (by omega) n (k + 5) (by omega) (by omega))
  have hrd : rd_T26 [a] 0 = a := rfl
  rw [body_set] at hB
  have hl := hB
  simp only [List.length_append, List.length_cons] at hl
  show @showO.f (opOf (lev05 n).s) (k + 6) 26 v (ofL (sl t)) [a] = some (ofL (bodyL m ⟨26, v, t, [a]⟩))
  unfold showO.f
  rw [level_eq (k + 1) (by omega) (by omega), Option.bind_some, if_neg (by omega), if_neg (by omega), show (hgt 26 : Int) = 1 from rfl, if_neg (by omega), if_pos rfl]
  unfold showO.j0
  dsimp only
  by_cases hn0 : v = 0
  ·have e : bodyL m ⟨26, v, t, [a]⟩ = (sl t ++ [32, 61, 32]) ++ showL m a 1 := by rw [body_set m v t a]; simp [asg, hn0]
   have s1 : (⟨#[32, 61, 32]⟩ : ByteArray) = ofL [32, 61, 32] := rfl
   have q1 : (ofL (sl t)).size + 3 ≤ 9223372036854775807 := by rw [ofL_size]; omega
   have q2 : (ofL (sl t ++ [32, 61, 32])).size + (ofL (showL m a 1)).size ≤ 9223372036854775807 := by rw [ofL_size, ofL_size, List.length_append]; simp only [List.length_cons, List.length_nil]; omega
   rw [if_pos (by simp [hn0]), if_pos q1, if_pos (by simp), hrd, hr, Option.bind_some, s1, ofL_app, if_pos q2, ofL_app, e]
  have e : bodyL m ⟨26, v, t, [a]⟩ = (((sl t ++ [32]) ++ sg v) ++ [61, 32]) ++ showL m a 1 := by rw [body_set m v t a]; simp [asg, hn0]
  have hasg : (asg v).length = (sg v).length + 1 := by simp [asg, hn0]
  have s1 : (⟨#[32]⟩ : ByteArray) = ofL [32] := rfl
  have s2 : (⟨#[61, 32]⟩ : ByteArray) = ofL [61, 32] := rfl
  have hs : jobshellref05_sign.f v = some (ofL (sg v)) := by
   unfold asgB at h0
   simp at h0
   exact refsign_eq (by omega) (by omega)
  have q1 : (ofL (sl t)).size + 1 ≤ 9223372036854775807 := by rw [ofL_size]; omega
  have q2 : (ofL (sl t ++ [32])).size + (ofL (sg v)).size ≤ 9223372036854775807 := by rw [ofL_size, ofL_size, List.length_append]; simp only [List.length_cons, List.length_nil]; omega
  have q3 : (ofL ((sl t ++ [32]) ++ sg v)).size + 2 ≤ 9223372036854775807 := by rw [ofL_size, List.length_append, List.length_append]; simp only [List.length_cons, List.length_nil]; omega
  have q4 : (ofL (((sl t ++ [32]) ++ sg v) ++ [61, 32])).size + (ofL (showL m a 1)).size ≤ 9223372036854775807 := by rw [ofL_size, ofL_size]; simp only [List.length_append, List.length_cons, List.length_nil]; omega
  rw [if_neg (by simp [hn0]), if_pos rfl, if_pos q1, hs, Option.bind_some, s1, ofL_app, if_pos q2, ofL_app, if_pos q3, if_pos (by simp), hrd, hr, Option.bind_some, s2, ofL_app, if_pos q4, ofL_app, e]
theorem refshow_is {x : S26} (hV : V 32 x) (k : Nat) (hk : 200 ≤ k) : jobshellref05_show.f k x.f0 x.f1 x.f2 x.f3 = some (ofL (showL 32 x 1)) := by
 have h := refshow hV (Nat.le_refl _) k k (by omega) (by omega)
 have hge : ¬ hgt x.f0 < 1 := by
  cases hV with
  | num _ n _ _ => show ¬ hgt 1 < 1; decide
  | var _ t _ => show ¬ hgt 2 < 1; decide
  | un _ op a h0 h1 _ =>
   obtain ⟨b, f1, f2, f3, f4, f5⟩ := un_facts h0 h1
   simp only
   omega
  | bin _ op a b h0 h1 _ _ =>
   obtain ⟨f1, f2, f3, f4, f5, f6⟩ := bin_facts h0 h1
   simp only
   omega
  | cond _ a b c _ _ _ => show ¬ hgt 25 < 1; decide
  | set _ n t a _ _ _ => show ¬ hgt 26 < 1; decide
 rw [showL_eq, if_neg hge]
 exact h
theorem ref_kids_eq (k : Nat) (op : Int) : jobshellref05_kids.f (k + 3) op = some (kidsE op) := by
 unfold jobshellref05_kids.f kidsE
 simp only [jobshellref05_kids.j0, jobshellref05_kids.j1, jobshellref05_kids.j2]
 repeat' split
 all_goals first | rfl | (exfalso; simp_all; done) | (exfalso; simp_all; omega)
theorem compound_eq (n : Int) : jobshellref05_compound.f n = some (asgE n) := assigns_eq n
theorem letter_eq (c : Int) : jobshellref01_Letter.f c = some (lett c) := by
 unfold jobshellref01_Letter.f lett
 repeat' split
 all_goals first | (simp_all; done) | (simp_all; omega)
theorem digit_eq (c : Int) : jobshellref01_Digit.f c = some (dgt c) := by
 unfold jobshellref01_Digit.f dgt
 repeat' split
 all_goals first | (simp_all; done) | (simp_all; omega)
theorem word_eq (c : Int) : jobshellref01_Word.f c = some (lett c || dgt c || c == 95) := by
 unfold jobshellref01_Word.f
 rw [letter_eq, digit_eq]
 cases lett c <;> cases dgt c <;> simp
theorem name_l0 (s : ByteArray) (hs : s.size ≤ 32) : ∀ (f i : Nat), i + f = s.size → ∀ k, f + 1 ≤ k → jobshellref01_Name.l0 k s (i : Int) = some (wordsAll s f i)
 | 0, i, hi, k, hk => by
  obtain ⟨k, rfl⟩ : ∃ k', k = k' + 1 := ⟨k - 1, by omega⟩
  rw [jobshellref01_Name.l0, if_neg (by omega)]
  rfl
 | f + 1, i, hi, k, hk => by
  obtain ⟨k, rfl⟩ : ∃ k', k = k' + 1 := ⟨k - 1, by omega⟩
  rw [jobshellref01_Name.l0, if_pos (by omega), if_pos (by omega), word_eq]
  simp only [Option.bind_some]
  have hw : wrap64 ((i : Int) + 1) = ((i + 1 : Nat) : Int) := by
   simp only [wrap64, IntKind.wrap]
   omega
  rw [hw, name_l0 s hs f (i + 1) (by omega) k (by omega)]
  show _ = some (if (lett (bt s (i : Int)) || dgt (bt s (i : Int)) || bt s (i : Int) == 95) = true then wordsAll s f (i + 1) else false)
  split <;> rfl
theorem name_eq (s : ByteArray) (k : Nat) (hk : 34 ≤ k) : jobshellref01_Name.f k s = some (nameB s) := by
 obtain ⟨k, rfl⟩ : ∃ k', k = k' + 1 := ⟨k - 1, by omega⟩
 unfold jobshellref01_Name.f
 have hj : jobshellref01_Name.j0 (k + 1) s true = some false := rfl
 have hz : s.toList = [] ↔ s.size = 0 := by
  rw [Go.ByteArray.toList_eq]
  constructor
  ·intro h
   have := congrArg List.length h
   simpa using this
  intro h
  exact List.eq_nil_of_length_eq_zero (by simpa using h)
 by_cases h0 : s.size = 0
 ·rw [if_pos (hz.mpr h0), hj]
  simp [nameB, h0]
 rw [if_neg (fun h => h0 (hz.mp h))]
 by_cases h1 : (s.size : Int) > 32
 ·rw [if_pos h1, hj]
  have : ¬ s.size ≤ 32 := by omega
  simp [nameB, this]
 rw [if_neg h1, if_pos (by omega), digit_eq]
 have h32 : s.size ≤ 32 := by omega
 simp only [Option.bind_some, jobshellref01_Name.j0]
 have hl := name_l0 s h32 s.size 0 (by omega) k (by omega)
 rw [show ((0 : Nat) : Int) = 0 from rfl] at hl
 rw [hl]
 obtain ⟨f, hf⟩ : ∃ f, s.size = f + 1 := ⟨s.size - 1, by omega⟩
 have hB : nameB s = nameAll s s.size 0 := by simp [nameB, h32, show 0 < s.size by omega]
 rw [hB, hf]
 have e0 : nameAll s (f + 1) 0 = (nameC (bt s 0) 0 && nameAll s f 1) := by rw [nameAll, if_pos (show 0 < s.size by omega)]; rfl
 have e1 : wordsAll s (f + 1) 0 = if (lett (bt s 0) || dgt (bt s 0) || bt s 0 == 95) = true then wordsAll s f 1 else false := rfl
 rw [e0, e1, words_names s f 1 (by omega) (by omega)]
 unfold nameC
 have hd : dgt (bt s 0) = true → lett (bt s 0) = false ∧ (bt s 0 == 95) = false := by
  unfold dgt lett
  intro h
  simp at h ⊢
  omega
 cases hD : dgt (bt s 0)
 ·cases lett (bt s 0) <;> cases (bt s 0 == 95) <;> simp
 obtain ⟨h3, h4⟩ := hd hD
 rw [h3, h4]
 simp
theorem ref_part_eq (k : Nat) (op n : Int) (nm : ByteArray) (l : List S26) (d : Int) (hd : d < 32) :
 jobshellref05_valid.f (k + 41) op n nm l d = if partE op n nm l.length = 0 then jobshellref05_valid.l0 (k + 36) d 0 op n nm l else some (partE op n nm l.length) := by
 have h4 : ∀ c, jobshellref05_valid.j3 (k + 37) d c op n nm l = if c = true then some 10 else jobshellref05_valid.l0 (k + 36) d 0 op n nm l := fun c => by rw [jobshellref05_valid.j3]
 have h3 : ∀ b c, jobshellref05_valid.j2 (k + 38) d b (!c) op n nm l = if c = true then (if (b && !nameB nm) = true then some 10 else jobshellref05_valid.l0 (k + 36) d 0 op n nm l) else some 1 := by
  intro b c
  rw [jobshellref05_valid.j2, name_eq nm (k + 37) (by omega)]
  simp only [Option.bind_some, h4]
  cases c
  ·simp
  cases b
  ·simp
  cases nameB nm <;> simp
 have h2 : ∀ b c, jobshellref05_valid.j1 (k + 39) d b (!c) op n nm l = if c = true then jobshellref05_valid.j2 (k + 38) d b (!rightE op n) op n nm l else some 1 := by
  intro b c
  rw [jobshellref05_valid.j1, compound_eq]
  simp only [Option.bind_some]
  unfold rightE
  cases c
  ·simp
  by_cases o1 : op = 1
  rotate_left
  ·by_cases o26 : op = 26
   rotate_left
   ·simp [o1, o26, bne]
   simp only [if_neg o1, if_pos o26]
   cases asgE n <;> simp
  have o26 : ¬ op = 26 := by omega
  by_cases hn : n < 0
  ·have : ¬ n ≥ 0 := by omega
   simp [o1, hn, this]
  have : n ≥ 0 := by omega
  simp [o1, hn, this]
 have h1 : ∀ b, jobshellref05_valid.j0 (k + 40) d b op n nm l = jobshellref05_valid.j1 (k + 39) d b (!(decide (kidsE op = (l.length : Int)) && (b == (nm.toList != [])))) op n nm l := by
  intro b
  rw [jobshellref05_valid.j0, ref_kids_eq]
  simp only [Option.bind_some]
  by_cases hk : (l.length : Int) = kidsE op
  ·rw [if_pos hk]
   have hk' : kidsE op = (l.length : Int) := hk.symm
   cases b <;> simp [hk', bne]
  rw [if_neg hk]
  have hk' : ¬ kidsE op = (l.length : Int) := fun h => hk h.symm
  simp [hk']
 have hn : namedE op = if op = 2 then true else (op == 26) := by
  unfold namedE
  split <;> simp_all
 have hall : ∀ b, jobshellref05_valid.j0 (k + 40) d b op n nm l = if (decide (kidsE op = (l.length : Int)) && rightE op n && (b == (nm.toList != []))) = true then (if (b && !nameB nm) = true then some 10 else jobshellref05_valid.l0 (k + 36) d 0 op n nm l) else some 1 := by
  intro b
  rw [h1, h2, h3]
  cases decide (kidsE op = (l.length : Int)) <;> cases rightE op n <;> cases (b == (nm.toList != [])) <;> simp
 rw [jobshellref05_valid.f, if_neg (by omega)]
 have hp : (if op = 2 then jobshellref05_valid.j0 (k + 40) d true op n nm l else jobshellref05_valid.j0 (k + 40) d (op == 26) op n nm l) = jobshellref05_valid.j0 (k + 40) d (namedE op) op n nm l := by
  rw [hn]
  split <;> rfl
 rw [hp, hall]
 unfold partE
 split
 ·split <;> simp
 simp
theorem ref_valid_eq : ∀ (m : Nat) (x : S26) (k : Nat), m ≤ 32 → 50 * m + 50 ≤ k → jobshellref05_valid.f k x.f0 x.f1 x.f2 x.f3 ((32 - m : Nat) : Int) = some (validE m x)
 | 0, x, k, _, hk => by
  obtain ⟨k, rfl⟩ : ∃ k', k = k' + 1 := ⟨k - 1, by omega⟩
  rw [jobshellref05_valid.f, if_pos (by omega)]
  rfl
 | m + 1, x, k, hm, hk => by
  obtain ⟨k, rfl⟩ : ∃ k', k = k' + 41 := ⟨k - 41, by omega⟩
  have hl : ∀ (ys : List S26) (i n : Nat), x.f3.drop i = ys → x.f3.length ≤ 3 → i ≤ 3 → ys.length + (50 * m + 50) + 1 ≤ n → jobshellref05_valid.l0 n ((32 - (m + 1) : Nat) : Int) (i : Int) x.f0 x.f1 x.f2 x.f3 = some (firstE (validE m) ys) := by
   intro ys
   induction ys with
   | nil =>
    intro i n hd h3 hi hn
    obtain ⟨n, rfl⟩ : ∃ k', n = k' + 1 := ⟨n - 1, by omega⟩
    have : x.f3.length ≤ i := by
     have := congrArg List.length hd
     simp at this
     omega
    rw [jobshellref05_valid.l0, if_neg (by omega)]
    rfl
   | cons y ys ih =>
    intro i n hd h3 hi hn
    obtain ⟨n, rfl⟩ : ∃ k', n = k' + 1 := ⟨n - 1, by omega⟩
    obtain ⟨e1, e2, e3⟩ := rd_at hd
    simp only [List.length_cons] at hn
    rw [jobshellref05_valid.l0, if_pos (by omega), if_pos (by omega), e1]
    have hw : wrap64 (((32 - (m + 1) : Nat) : Int) + 1) = ((32 - m : Nat) : Int) := by
     simp only [wrap64, IntKind.wrap]
     omega
    rw [hw, ref_valid_eq m y n (by omega) (by omega), wrap_succ (by omega)]
    simp only [Option.bind_some]
    unfold firstE
    split
    ·exact ih (i + 1) n e3 h3 (by omega) (by omega)
    rfl
  rw [ref_part_eq _ _ _ _ _ _ (by omega)]
  unfold validE
  split
  rotate_left
  ·rfl
  rename_i hp
  exact hl x.f3 0 (k + 36) rfl (part_len hp) (by omega) (by have := part_len hp; omega)
theorem cnt_mono : ∀ (m : Nat) (x : S26), cnt m x ≤ cnt (m + 1) x
 | 0, x => by simp [cnt]
 | m + 1, x => by
  have h : ∀ l : List S26, (l.map (cnt m)).sum ≤ (l.map (cnt (m + 1))).sum := by
   intro l
   induction l with
   | nil => simp
   | cons a l ih =>
    have := cnt_mono m a
    simp only [List.map_cons, List.sum_cons]
    omega
  have := h x.f3
  show 1 + _ ≤ 1 + _
  omega
theorem cnt_up (x : S26) {m n : Nat} (h : m ≤ n) : cnt m x ≤ cnt n x := by
 induction h with
 | refl => exact Nat.le_refl _
 | step _ ih => exact Nat.le_trans ih (cnt_mono _ x)
theorem refValid_is (x : S26) (k : Nat) (hk : 1700 ≤ k) : jobshellref05_Valid.f k x.f0 x.f1 x.f2 x.f3 = some (validE 32 x) := by
 unfold jobshellref05_Valid.f
 have h2 := ref_valid_eq 32 x k (by omega) (by omega)
 rw [show ((32 - 32 : Nat) : Int) = 0 from rfl] at h2
 rw [h2]
 rfl
theorem shows_true (x : S26) (hF : Fine x) : ∃ k, jobshelllaw05_ArithShows.f k x.f0 x.f1 x.f2 x.f3 = some true := by
 by_cases hv : validE 32 x = 0
 rotate_left
 ·refine ⟨3300, ?_⟩
  obtain ⟨b, hb, _⟩ := Small_told x 3300 (Nat.le_refl _)
  unfold jobshelllaw05_ArithShows.f
  rw [hb, Option.bind_some]
  cases b
  ·rw [if_neg (by simp), awake_big _ (by omega), Option.bind_some]
  rw [if_pos rfl]
  unfold arith_Show.f jobshellref05_Show.f
  rw [Valid_is x _ (by omega), Option.bind_some, if_neg hv, Option.bind_some, refValid_is x _ (by omega), Option.bind_some, if_neg hv, Option.bind_some, if_pos rfl, if_pos rfl, awake_big _ (by omega), Option.bind_some]
 have hV := valid_V 32 x hF hv
 obtain ⟨b, hb, hb2⟩ := Small_told x 3300 (Nat.le_refl _)
 by_cases hc : cnt 32 x ≤ 4096
 rotate_left
 ·refine ⟨3300, ?_⟩
  unfold jobshelllaw05_ArithShows.f
  rw [hb, Option.bind_some]
  cases b
  ·rw [if_neg (by simp), awake_big _ (by omega), Option.bind_some]
  obtain ⟨_, h60⟩ := hb2 rfl
  have := cnt_up x (show 32 ≤ 40 by omega)
  omega
 obtain ⟨ks, hsz⟩ := size_V hV hc
 refine ⟨ks + 3300, ?_⟩
 obtain ⟨b, hb, hb2⟩ := Small_told x (ks + 3300) (by omega)
 have hz : (ofL (showL 32 x 1)).size = (showL 32 x 1).length := rfl
 have h1 : arith_show.f (ks + 3300) x.f0 x.f1 x.f2 x.f3 1 = _ := show_is hV (Nat.le_refl _) (ks + 3300) 1 (by omega)
 have h2 := refshow_is hV (ks + 3300) (by omega)
 unfold jobshelllaw05_ArithShows.f
 rw [hb, Option.bind_some]
 cases b
 ·rw [if_neg (by simp), awake_big _ (by omega), Option.bind_some]
 rw [if_pos rfl]
 unfold arith_Show.f jobshellref05_Show.f
 rw [Valid_is x _ (by omega), Option.bind_some, if_pos hv, size_up (show ks ≤ ks + 3300 by omega) hsz, Option.bind_some, if_neg (by omega), h1, Option.bind_some, refValid_is x _ (by omega), Option.bind_some, if_pos hv, h2, Option.bind_some]
 by_cases hl : ((ofL (showL 32 x 1)).size : Int) > 4096
 ·rw [if_pos hl, Option.bind_some, Option.bind_some, if_pos rfl, if_pos rfl, awake_big _ (by omega), Option.bind_some]
 rw [if_neg hl, Option.bind_some, Option.bind_some, if_pos rfl, if_pos rfl, awake_big _ (by omega), Option.bind_some]
end Go.Proofs.YtglmdfddgmkmaaaDoor.Q
end
section
namespace Go.Proofs.YtglmdfddgmkmaaaDoor.Q
open Go.ChangeShapes Go.WideShapes Go.ChangeAt Go.RowKit
open Go.ChangeMaps (open_string shut_string)
set_option maxRecDepth 100000
set_option linter.unusedVariables false
theorem laidOut : laidOutB Tryd.prog = true := by kernel_rfl
theorem shows_lifted (os : Os) (started : os.Started) (H : Type) (enc : TypeId × Value → H) :
 ReturnsInHanded {} Tryd.checked os 4 .any (fun w args => (Rows.arithShowsSpec.pre enc Tryd.prog Tryd.f4 [] false w args ∧ laidMetH Tryd.prog laid3 w) ∧ sizedMet enc Tryd.prog Tryd.f4 (OpenSpec.ofChange Rows.arithShowsSpec) false w args)
  (Rows.arithShowsSpec.post enc Tryd.prog Tryd.f4 false true false false) := by
 refine returnsInHanded_of_change_and (C := Tryd.checked) (X := fun w _ => laidMetH Tryd.prog laid3 w) (fun _ _ _ hh h => h.of_heap hh) own started (by kernel_rfl) Tryd.func4
  (ChangeSpec.witness_shaped (enc := enc) (C := Tryd.checked) (os := os) (X := fun w _ => laidMetH Tryd.prog laid3 w) false (World.doorLaid Tryd.prog 400 os) #[.agg #[.int .i64 0, .int .i64 0, .string ⟨#[]⟩, .slice none 0 0]] 8 rfl (World.shaped_of_RefB (by kernel_rfl) (by kernel_rfl)) (by kernel_rfl) (by kernel_rfl) (by kernel_rfl) (door_met os _)) ?_
 intro W base args ds gs before hval0 hW _ _ hL _
 have hval : ∀ (j : Nat) t v, Tryd.f4.params[j]? = some t → args[j]? = some v → Value.okWide Tryd.prog W .any base t v := hval0
 have hW' := hW
 obtain ⟨p, q, hA0, hV, rfl, hfz, hnd⟩ := hW
 have hA : DataW.TrodAll enc Tryd.prog W 0 (fun _ => true) true Tryd.f4.params.toList args.toList ds p := hA0
 rw [Tryd.params4] at hA hval
 obtain ⟨v0, vs0, d0, ds0, p0, q0, hargs, rfl, rfl, h0, r0⟩ := trodAll_cons hA
 obtain ⟨rfl, rfl, rfl⟩ := trodAll_nil r0
 obtain rfl : args = #[v0] := by cases args; simp_all
 obtain ⟨rfl, rfl⟩ := trodVars_none hV
 have k0 := h0
 have lt0 : ∀ x ∈ p0, x.block < W.heap.size := by obtain ⟨m, hm⟩ := k0; exact DataW.trod_lt m _ _ _ hm
 obtain ⟨x0, A0, c0, rfl, hc0, hC0, hF0⟩ := tree_open (hval 0 26 v0 rfl rfl) h0
 obtain ⟨k, hk⟩ := shows_true x0 hF0
 refine (jobshelllaw05_ArithShows.calls k x0.f0 x0.f1 x0.f2 A0 c0 x0.f3 true W hC0 hc0 hk (of_laid hL)).mono fun e W' ⟨he, bel⟩ => ?_
 subst he
 exact ⟨_, rfl, _, _, _, [], _, [], hW', trodAll_mk1 (shut_bool Tryd.underlying4 _), (trodAll_cons_mk (Below.trod laidOut (by kernel_rfl) (of_decide_eq_true (by kernel_rfl)) k0 bel lt0) trodAll_mk0), rfl, bel.frame _, fun h => by cases h⟩
theorem arithShows_holds : Rows.ArithShowsSaid :=
 OpenClaim.holds_of_wide 4 Tryd.f4 rfl rfl rfl rfl rfl rfl rfl ⟨rfl, rfl, rfl, rfl, rfl⟩ rfl rfl rfl rfl rfl (by kernel_rfl) Tryd.func4 (by kernel_rfl)
  (of_decide_eq_true (by kernel_rfl)) (by unfold Func.isWrapper; first | (rw [if_pos (by decide +kernel)]; kernel_rfl) | (rw [if_neg (by decide +kernel)]; exact ⟨rfl, rfl⟩))
  (fun os started H enc _ => shows_lifted os started H enc)
end Go.Proofs.YtglmdfddgmkmaaaDoor.Q
namespace Go.Proofs.YtglmdfddgmkmaaaDoor
open Q
set_option maxRecDepth 100000
theorem arithShows_card : Rows.ArithShowsCardSaid :=
 Claim7.holds_tied_plain_at .later [] [.data, .data, .data] true (true, "74cc2cd4b784e984c7617e824861adf5041c4fd5a2cf63fd298402107294065b") true
  arithShows_holds (fun _ h => by cases h) (by kernel_rfl) (fun _ h => by cases h) arithShows_row_tie rfl ⟨rfl, rfl⟩ (by kernel_rfl) rfl
  (fun f fn hf hfn => by
   obtain rfl : f = 4 := Option.some.inj ((show Tryd.prog.funcNamed "jobshell/jobshelllaw05.ArithShows" = some 4 by kernel_rfl).symm.trans hf) |>.symm
   obtain rfl : fn = Tryd.f4 := (Option.some.inj (Tryd.func4.symm.trans hfn)).symm
   exact ⟨by kernel_rfl, fun j t ht => by
    rw [Tryd.params4] at ht
    have hm : t ∈ [26] := by simpa using Array.mem_of_getElem? ht
    have hall : ([26].all fun u => !Tryd.prog.wantsStandIn u) = true := by kernel_rfl
    exact (show Tryd.prog.wantsStandIn t = false by simpa using List.all_eq_true.1 hall t hm)⟩)
  (by kernel_rfl)
end Go.Proofs.YtglmdfddgmkmaaaDoor
end
