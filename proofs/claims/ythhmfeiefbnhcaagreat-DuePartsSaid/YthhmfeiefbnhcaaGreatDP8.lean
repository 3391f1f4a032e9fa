/-
  Part 8 of the proof: DDue DTgt DJob DGat DGat2 DClone Shelf2 DCounts DEntry.
-/
import Derived.Scope
import Derived.Maps.OwnSet
import Derived.Maps.RangeWalk
import Derived.DeepKeys4
import Derived.Maps.Views
import Derived.Lib.SliceRun
import Derived.Shelf.SlGeneric
import Derived.Shelf.SlicesE.DeleteFunc
import Derived.Shelf.SlSortCmp.NoneTotal
import Derived.Test.YthhmfeiefbnhcaaGreatProg
import Derived.Sort.OwnSortedInts
import Derived.Test.YthhmfeiefbnhcaaGreatDP7
namespace Go.Proofs.YthhmfeiefbnhcaaGreat.Due
open Go.RowKit Go.Proofs.YthhmfeiefbnhcaaGreat.PDueParts Go.Proofs.YthhmfeiefbnhcaaGreatW.PrintWords Go.Proofs.YthhmfeiefbnhcaaGreatW.PrintLast
set_option linter.unusedVariables false
set_option linter.unusedSimpArgs false
def dueP (p : Pol) (t i hour : Int) : Bool := rightP t i && decide (endP t i ≤ hour - lagP p t)
def bestP (p : Pol) (of hour : Int) : Int :=
  if okH of = true then (if dueP p 3 (idx 3 of) hour = true then 3 else if dueP p 2 (idx 2 of) hour = true then 2 else if dueP p 1 (idx 1 of) hour = true then 1 else 0) else 0
theorem lag_bd {p : Pol} (h : p.ok) (t : Int) : 0 ≤ lagP p t ∧ lagP p t ≤ 1048576 := by
  unfold Pol.ok at h
  unfold lagP
  split
  · omega
  · split <;> omega
set_option maxRecDepth 100000 in
set_option maxHeartbeats 2000000 in
theorem due_calls (W : World) (p : Pol) (t i hour : Int) (hok : p.ok) (hh : 0 ≤ hour ∧ hour ≤ 1099511627776) : Calls Tryz.prog 37 #[.agg #[.int .i64 t, .int .i64 i], .agg #[.int .i64 p.r0, .int .i64 p.r1, .int .i64 p.r2, .int .i64 p.r3, .int .i64 p.r4, .int .i64 p.r5, .int .i64 p.r6, .int .i64 p.r7, .int .i64 p.r8], .int .i64 hour] W fun e w' =>
    e = .returned (.bool (dueP p t i hour)) ∧ Below W.heap.size W w' := by
  have HB := Aside0.mk (Below.refl W.heap.size W)
  have hl := lag_bd hok t
  have HOK := Aside0.mk hok
  have r1 : wrap64 (hour - lagP p t) = hour - lagP p t := wr (by omega) (by omega)
  clear hok
  cases hr : rightP t i
  case false =>
    have HR := Aside0.mk hr
    have HT := Aside0.mk (show True from trivial)
    clear hr
    go_enter Tryz.func37, Tryz.ntmps37
    go_wp2_with (first
      | ((with_reducible refine gate_dst (N := 3) rfl ?_); refine box_event ?hg (N := 3) ?hd (cs := #[.int .i64 t, .int .i64 i]) (t := 38) ?hr ?_; (case hd => rfl); (case hg => rfl); (case hr => first | (go_simp; done) | (go_simp; rfl)); intro b3 hb3 w1 Kb3 hb_; have Gb3 := Aside0.mk (by rw [hb3]; exact HB.out.size : W.heap.size ≤ b3); replace HB := Aside0.mk (below_step HB.out hb_); clear hb3; clear hb_; have cb3_0 := blk_cell Kb3 0; have cb3_1 := blk_cell Kb3 1; simp only [List.getElem?_toArray, List.getElem?_cons_zero, List.getElem?_cons_succ] at cb3_0 cb3_1; replace Kb3 := Aside0.mk Kb3)
      | ((with_reducible refine gate_dst (N := 4) rfl ?_); refine box_event ?hg (N := 4) ?hd (cs := #[.int .i64 p.r0, .int .i64 p.r1, .int .i64 p.r2, .int .i64 p.r3, .int .i64 p.r4, .int .i64 p.r5, .int .i64 p.r6, .int .i64 p.r7, .int .i64 p.r8]) (t := 25) ?hr ?_; (case hd => rfl); (case hg => rfl); (case hr => first | (go_simp; done) | (go_simp; rfl)); intro b4 hb4 w2 Kb4 hb_; have Gb4 := Aside0.mk (by rw [hb4]; exact HB.out.size : W.heap.size ≤ b4); replace HB := Aside0.mk (below_step HB.out hb_); clear hb4; replace cb3_0 := pw_cell_below hb_ cb3_0; replace cb3_1 := pw_cell_below hb_ cb3_1; clear hb_; have cb4_0 := blk_cell Kb4 0; have cb4_1 := blk_cell Kb4 1; have cb4_2 := blk_cell Kb4 2; have cb4_3 := blk_cell Kb4 3; have cb4_4 := blk_cell Kb4 4; have cb4_5 := blk_cell Kb4 5; have cb4_6 := blk_cell Kb4 6; have cb4_7 := blk_cell Kb4 7; have cb4_8 := blk_cell Kb4 8; simp only [List.getElem?_toArray, List.getElem?_cons_zero, List.getElem?_cons_succ] at cb4_0 cb4_1 cb4_2 cb4_3 cb4_4 cb4_5 cb4_6 cb4_7 cb4_8; replace Kb4 := Aside0.mk Kb4)
      | (go_at_call 81; refine (right_calls _ _ _).mono ?_; rintro e w3 ⟨rfl, hb_⟩; replace HB := Aside0.mk (below_step HB.out hb_); replace cb3_0 := pw_cell_below hb_ cb3_0; replace cb3_1 := pw_cell_below hb_ cb3_1; replace cb4_0 := pw_cell_below hb_ cb4_0; replace cb4_1 := pw_cell_below hb_ cb4_1; replace cb4_2 := pw_cell_below hb_ cb4_2; replace cb4_3 := pw_cell_below hb_ cb4_3; replace cb4_4 := pw_cell_below hb_ cb4_4; replace cb4_5 := pw_cell_below hb_ cb4_5; replace cb4_6 := pw_cell_below hb_ cb4_6; replace cb4_7 := pw_cell_below hb_ cb4_7; replace cb4_8 := pw_cell_below hb_ cb4_8; clear hb_; rw [HR.out])
      | fail)
    go_ret
    exact ⟨by rw [dueP, HR.out]; rfl, HB.out⟩
  case true =>
    have HR := Aside0.mk hr
    have HT := Aside0.mk (right_t hr).1
    clear hr
    go_enter Tryz.func37, Tryz.ntmps37
    go_wp2_with (first
      | ((with_reducible refine gate_dst (N := 3) rfl ?_); refine box_event ?hg (N := 3) ?hd (cs := #[.int .i64 t, .int .i64 i]) (t := 38) ?hr ?_; (case hd => rfl); (case hg => rfl); (case hr => first | (go_simp; done) | (go_simp; rfl)); intro b3 hb3 w1 Kb3 hb_; have Gb3 := Aside0.mk (by rw [hb3]; exact HB.out.size : W.heap.size ≤ b3); replace HB := Aside0.mk (below_step HB.out hb_); clear hb3; clear hb_; have cb3_0 := blk_cell Kb3 0; have cb3_1 := blk_cell Kb3 1; simp only [List.getElem?_toArray, List.getElem?_cons_zero, List.getElem?_cons_succ] at cb3_0 cb3_1; replace Kb3 := Aside0.mk Kb3)
      | ((with_reducible refine gate_dst (N := 4) rfl ?_); refine box_event ?hg (N := 4) ?hd (cs := #[.int .i64 p.r0, .int .i64 p.r1, .int .i64 p.r2, .int .i64 p.r3, .int .i64 p.r4, .int .i64 p.r5, .int .i64 p.r6, .int .i64 p.r7, .int .i64 p.r8]) (t := 25) ?hr ?_; (case hd => rfl); (case hg => rfl); (case hr => first | (go_simp; done) | (go_simp; rfl)); intro b4 hb4 w2 Kb4 hb_; have Gb4 := Aside0.mk (by rw [hb4]; exact HB.out.size : W.heap.size ≤ b4); replace HB := Aside0.mk (below_step HB.out hb_); clear hb4; replace cb3_0 := pw_cell_below hb_ cb3_0; replace cb3_1 := pw_cell_below hb_ cb3_1; clear hb_; have cb4_0 := blk_cell Kb4 0; have cb4_1 := blk_cell Kb4 1; have cb4_2 := blk_cell Kb4 2; have cb4_3 := blk_cell Kb4 3; have cb4_4 := blk_cell Kb4 4; have cb4_5 := blk_cell Kb4 5; have cb4_6 := blk_cell Kb4 6; have cb4_7 := blk_cell Kb4 7; have cb4_8 := blk_cell Kb4 8; simp only [List.getElem?_toArray, List.getElem?_cons_zero, List.getElem?_cons_succ] at cb4_0 cb4_1 cb4_2 cb4_3 cb4_4 cb4_5 cb4_6 cb4_7 cb4_8; replace Kb4 := Aside0.mk Kb4)
      | (go_at_call 81; refine (right_calls _ _ _).mono ?_; rintro e w3 ⟨rfl, hb_⟩; replace HB := Aside0.mk (below_step HB.out hb_); replace cb3_0 := pw_cell_below hb_ cb3_0; replace cb3_1 := pw_cell_below hb_ cb3_1; replace cb4_0 := pw_cell_below hb_ cb4_0; replace cb4_1 := pw_cell_below hb_ cb4_1; replace cb4_2 := pw_cell_below hb_ cb4_2; replace cb4_3 := pw_cell_below hb_ cb4_3; replace cb4_4 := pw_cell_below hb_ cb4_4; replace cb4_5 := pw_cell_below hb_ cb4_5; replace cb4_6 := pw_cell_below hb_ cb4_6; replace cb4_7 := pw_cell_below hb_ cb4_7; replace cb4_8 := pw_cell_below hb_ cb4_8; clear hb_; rw [HR.out])
      | (go_at_call 82; refine (check_calls _ p HOK.out).mono ?_; rintro e w4 ⟨rfl, hb_⟩; replace HB := Aside0.mk (below_step HB.out hb_); replace cb3_0 := pw_cell_below hb_ cb3_0; replace cb3_1 := pw_cell_below hb_ cb3_1; replace cb4_0 := pw_cell_below hb_ cb4_0; replace cb4_1 := pw_cell_below hb_ cb4_1; replace cb4_2 := pw_cell_below hb_ cb4_2; replace cb4_3 := pw_cell_below hb_ cb4_3; replace cb4_4 := pw_cell_below hb_ cb4_4; replace cb4_5 := pw_cell_below hb_ cb4_5; replace cb4_6 := pw_cell_below hb_ cb4_6; replace cb4_7 := pw_cell_below hb_ cb4_7; replace cb4_8 := pw_cell_below hb_ cb4_8; clear hb_)
      | (go_at_call 83; refine (lag_calls _ p t HT.out).mono ?_; rintro e w5 ⟨rfl, hb_⟩; replace HB := Aside0.mk (below_step HB.out hb_); replace cb3_0 := pw_cell_below hb_ cb3_0; replace cb3_1 := pw_cell_below hb_ cb3_1; replace cb4_0 := pw_cell_below hb_ cb4_0; replace cb4_1 := pw_cell_below hb_ cb4_1; replace cb4_2 := pw_cell_below hb_ cb4_2; replace cb4_3 := pw_cell_below hb_ cb4_3; replace cb4_4 := pw_cell_below hb_ cb4_4; replace cb4_5 := pw_cell_below hb_ cb4_5; replace cb4_6 := pw_cell_below hb_ cb4_6; replace cb4_7 := pw_cell_below hb_ cb4_7; replace cb4_8 := pw_cell_below hb_ cb4_8; clear hb_)
      | (go_at_call 39; refine (span_calls _ _ _).mono ?_; rintro e w6 ⟨rfl, hb_⟩; replace HB := Aside0.mk (below_step HB.out hb_); replace cb3_0 := pw_cell_below hb_ cb3_0; replace cb3_1 := pw_cell_below hb_ cb3_1; replace cb4_0 := pw_cell_below hb_ cb4_0; replace cb4_1 := pw_cell_below hb_ cb4_1; replace cb4_2 := pw_cell_below hb_ cb4_2; replace cb4_3 := pw_cell_below hb_ cb4_3; replace cb4_4 := pw_cell_below hb_ cb4_4; replace cb4_5 := pw_cell_below hb_ cb4_5; replace cb4_6 := pw_cell_below hb_ cb4_6; replace cb4_7 := pw_cell_below hb_ cb4_7; replace cb4_8 := pw_cell_below hb_ cb4_8; clear hb_)
      | fail)
    go_ret
    exact ⟨by rw [dueP, HR.out]; rfl, HB.out⟩
theorem idx94_0 (w : World) : (Instr.index 94 (.agg #[.int .i64 3, .int .i64 2, .int .i64 1]) (.int .i64 0)).run Tryz.prog w = .ok (.int .i64 3) w := by kernel_rfl
theorem idx94_1 (w : World) : (Instr.index 94 (.agg #[.int .i64 3, .int .i64 2, .int .i64 1]) (.int .i64 1)).run Tryz.prog w = .ok (.int .i64 2) w := by kernel_rfl
theorem idx94_2 (w : World) : (Instr.index 94 (.agg #[.int .i64 3, .int .i64 2, .int .i64 1]) (.int .i64 2)).run Tryz.prog w = .ok (.int .i64 1) w := by kernel_rfl
set_option maxRecDepth 100000 in
set_option maxHeartbeats 4000000 in
theorem best_calls (W : World) (p : Pol) (of hour : Int) (hok : p.ok) (hh : 0 ≤ hour ∧ hour ≤ 1099511627776) : Calls Tryz.prog 11 #[.int .i64 of, .agg #[.int .i64 p.r0, .int .i64 p.r1, .int .i64 p.r2, .int .i64 p.r3, .int .i64 p.r4, .int .i64 p.r5, .int .i64 p.r6, .int .i64 p.r7, .int .i64 p.r8], .int .i64 hour] W fun e w' =>
    e = .returned (.int .i64 (bestP p of hour)) ∧ Below W.heap.size W w' := by
  have HB := Aside0.mk (Below.refl W.heap.size W)
  have HPOK := Aside0.mk hok
  have HH := Aside0.mk hh
  have j0 := idx94_0
  have j1 := idx94_1
  have j2 := idx94_2
  clear hok hh
  cases h0 : okH of
  case false =>
    have HE := Aside0.mk (show bestP p of hour = 0 by rw [bestP, h0, if_neg (by decide)])
    have HOK3 := Aside0.mk (show (okH of && okT 3) = false by rw [h0]; rfl)
    have HOK2 := Aside0.mk (show (okH of && okT 2) = false by rw [h0]; rfl)
    have HOK1 := Aside0.mk (show (okH of && okT 1) = false by rw [h0]; rfl)
    clear h0
    go_enter Tryz.func11, Tryz.ntmps11
    go_wp2_with (first
          | ((with_reducible refine gate_dst (N := 4) rfl ?_); refine box_event ?hg (N := 4) ?hd (cs := #[.int .i64 p.r0, .int .i64 p.r1, .int .i64 p.r2, .int .i64 p.r3, .int .i64 p.r4, .int .i64 p.r5, .int .i64 p.r6, .int .i64 p.r7, .int .i64 p.r8]) (t := 25) ?hr ?_; (case hd => rfl); (case hg => rfl); (case hr => first | (go_simp; done) | (go_simp; rfl)); intro b4 hb4 w0_ Kb4 hb_; have Gb4 := Aside0.mk (by rw [hb4]; exact HB.out.size : W.heap.size ≤ b4); replace HB := Aside0.mk (below_step HB.out hb_); clear hb4; clear hb_; have cb4_0 := blk_cell Kb4 0; have cb4_1 := blk_cell Kb4 1; have cb4_2 := blk_cell Kb4 2; have cb4_3 := blk_cell Kb4 3; have cb4_4 := blk_cell Kb4 4; have cb4_5 := blk_cell Kb4 5; have cb4_6 := blk_cell Kb4 6; have cb4_7 := blk_cell Kb4 7; have cb4_8 := blk_cell Kb4 8; simp only [List.getElem?_toArray, List.getElem?_cons_zero, List.getElem?_cons_succ] at cb4_0 cb4_1 cb4_2 cb4_3 cb4_4 cb4_5 cb4_6 cb4_7 cb4_8; replace Kb4 := Aside0.mk Kb4)
          | fail)
    refine wp_scope_straight ?_
    refine wp_seq_k (fun K0 hK0 => wp_label ?_)
    apply hK0
    go_wp2
    refine wp_loop_rounds 4 ?_
    rw [rounds_succ]
    go_wp2_with (first
          | (go_at_call 36; refine (of_calls _ 3 of).mono ?_; rintro e w10 ⟨rfl, hb_⟩; replace HB := Aside0.mk (below_step HB.out hb_); replace cb4_0 := pw_cell_below hb_ cb4_0; replace cb4_1 := pw_cell_below hb_ cb4_1; replace cb4_2 := pw_cell_below hb_ cb4_2; replace cb4_3 := pw_cell_below hb_ cb4_3; replace cb4_4 := pw_cell_below hb_ cb4_4; replace cb4_5 := pw_cell_below hb_ cb4_5; replace cb4_6 := pw_cell_below hb_ cb4_6; replace cb4_7 := pw_cell_below hb_ cb4_7; replace cb4_8 := pw_cell_below hb_ cb4_8; replace Kb4 := Aside0.mk ((hb_.block _ (blk_lt Kb4.out)).trans Kb4.out); clear hb_; rw [HOK3.out])
          | ((with_reducible refine gate_dst (N := 9) rfl ?_); refine box_event ?hg (N := 9) ?hd (cs := #[.int .i64 0, .int .i64 0]) (t := 38) ?hr ?_; (case hd => rfl); (case hg => rfl); (case hr => first | (go_simp; done) | (go_simp; rfl)); intro b90 hb90 w20 Kb90 hb_; have Gb90 := Aside0.mk (by rw [hb90]; exact HB.out.size : W.heap.size ≤ b90); have Nb4_b90 := Aside0.mk (fun e => by have := blk_lt Kb4.out; omega : b4 ≠ b90); replace HB := Aside0.mk (below_step HB.out hb_); clear hb90; replace cb4_0 := pw_cell_below hb_ cb4_0; replace cb4_1 := pw_cell_below hb_ cb4_1; replace cb4_2 := pw_cell_below hb_ cb4_2; replace cb4_3 := pw_cell_below hb_ cb4_3; replace cb4_4 := pw_cell_below hb_ cb4_4; replace cb4_5 := pw_cell_below hb_ cb4_5; replace cb4_6 := pw_cell_below hb_ cb4_6; replace cb4_7 := pw_cell_below hb_ cb4_7; replace cb4_8 := pw_cell_below hb_ cb4_8; replace Kb4 := Aside0.mk ((hb_.block _ (blk_lt Kb4.out)).trans Kb4.out); clear hb_; replace Kb90 := Aside0.mk Kb90)
          | (refine store_agg rfl 38 (.tmp 9) (.tmp 19) rfl rfl b90 #[.int .i64 (ofT 3 of), .int .i64 (ofI 3 of)] 38 _ rfl rfl Kb90.out size38 rfl (by simp [Value.oneCell']) ?_; intro w30 k_ g_; replace HB := Aside0.mk (HB.out.grown g_ HB.out.size (fun r e => by cases e; exact Gb90.out)); replace Kb4 := Aside0.mk (blk_grown Kb4.out g_ (fun e => by cases e; exact Nb4_b90.out rfl)); clear Kb90; have Kb90 := Aside0.mk k_; clear k_ g_; clear cb4_0; clear cb4_1; clear cb4_2; clear cb4_3; clear cb4_4; clear cb4_5; clear cb4_6; clear cb4_7; clear cb4_8; have cb4_0 := blk_cell Kb4.out 0; have cb4_1 := blk_cell Kb4.out 1; have cb4_2 := blk_cell Kb4.out 2; have cb4_3 := blk_cell Kb4.out 3; have cb4_4 := blk_cell Kb4.out 4; have cb4_5 := blk_cell Kb4.out 5; have cb4_6 := blk_cell Kb4.out 6; have cb4_7 := blk_cell Kb4.out 7; have cb4_8 := blk_cell Kb4.out 8; simp only [List.getElem?_toArray, List.getElem?_cons_zero, List.getElem?_cons_succ] at cb4_0 cb4_1 cb4_2 cb4_3 cb4_4 cb4_5 cb4_6 cb4_7 cb4_8)
          | fail)
    rw [rounds_succ]
    go_wp2_with (first
          | (go_at_call 36; refine (of_calls _ 2 of).mono ?_; rintro e w11 ⟨rfl, hb_⟩; replace HB := Aside0.mk (below_step HB.out hb_); replace cb4_0 := pw_cell_below hb_ cb4_0; replace cb4_1 := pw_cell_below hb_ cb4_1; replace cb4_2 := pw_cell_below hb_ cb4_2; replace cb4_3 := pw_cell_below hb_ cb4_3; replace cb4_4 := pw_cell_below hb_ cb4_4; replace cb4_5 := pw_cell_below hb_ cb4_5; replace cb4_6 := pw_cell_below hb_ cb4_6; replace cb4_7 := pw_cell_below hb_ cb4_7; replace cb4_8 := pw_cell_below hb_ cb4_8; replace Kb4 := Aside0.mk ((hb_.block _ (blk_lt Kb4.out)).trans Kb4.out); clear hb_; rw [HOK2.out])
          | ((with_reducible refine gate_dst (N := 9) rfl ?_); refine box_event ?hg (N := 9) ?hd (cs := #[.int .i64 0, .int .i64 0]) (t := 38) ?hr ?_; (case hd => rfl); (case hg => rfl); (case hr => first | (go_simp; done) | (go_simp; rfl)); intro b91 hb91 w21 Kb91 hb_; have Gb91 := Aside0.mk (by rw [hb91]; exact HB.out.size : W.heap.size ≤ b91); have Nb4_b91 := Aside0.mk (fun e => by have := blk_lt Kb4.out; omega : b4 ≠ b91); replace HB := Aside0.mk (below_step HB.out hb_); clear hb91; replace cb4_0 := pw_cell_below hb_ cb4_0; replace cb4_1 := pw_cell_below hb_ cb4_1; replace cb4_2 := pw_cell_below hb_ cb4_2; replace cb4_3 := pw_cell_below hb_ cb4_3; replace cb4_4 := pw_cell_below hb_ cb4_4; replace cb4_5 := pw_cell_below hb_ cb4_5; replace cb4_6 := pw_cell_below hb_ cb4_6; replace cb4_7 := pw_cell_below hb_ cb4_7; replace cb4_8 := pw_cell_below hb_ cb4_8; replace Kb4 := Aside0.mk ((hb_.block _ (blk_lt Kb4.out)).trans Kb4.out); clear hb_; replace Kb91 := Aside0.mk Kb91)
          | (refine store_agg rfl 38 (.tmp 9) (.tmp 19) rfl rfl b91 #[.int .i64 (ofT 2 of), .int .i64 (ofI 2 of)] 38 _ rfl rfl Kb91.out size38 rfl (by simp [Value.oneCell']) ?_; intro w31 k_ g_; replace HB := Aside0.mk (HB.out.grown g_ HB.out.size (fun r e => by cases e; exact Gb91.out)); replace Kb4 := Aside0.mk (blk_grown Kb4.out g_ (fun e => by cases e; exact Nb4_b91.out rfl)); clear Kb91; have Kb91 := Aside0.mk k_; clear k_ g_; clear cb4_0; clear cb4_1; clear cb4_2; clear cb4_3; clear cb4_4; clear cb4_5; clear cb4_6; clear cb4_7; clear cb4_8; have cb4_0 := blk_cell Kb4.out 0; have cb4_1 := blk_cell Kb4.out 1; have cb4_2 := blk_cell Kb4.out 2; have cb4_3 := blk_cell Kb4.out 3; have cb4_4 := blk_cell Kb4.out 4; have cb4_5 := blk_cell Kb4.out 5; have cb4_6 := blk_cell Kb4.out 6; have cb4_7 := blk_cell Kb4.out 7; have cb4_8 := blk_cell Kb4.out 8; simp only [List.getElem?_toArray, List.getElem?_cons_zero, List.getElem?_cons_succ] at cb4_0 cb4_1 cb4_2 cb4_3 cb4_4 cb4_5 cb4_6 cb4_7 cb4_8)
          | fail)
    rw [rounds_succ]
    go_wp2_with (first
          | (go_at_call 36; refine (of_calls _ 1 of).mono ?_; rintro e w12 ⟨rfl, hb_⟩; replace HB := Aside0.mk (below_step HB.out hb_); replace cb4_0 := pw_cell_below hb_ cb4_0; replace cb4_1 := pw_cell_below hb_ cb4_1; replace cb4_2 := pw_cell_below hb_ cb4_2; replace cb4_3 := pw_cell_below hb_ cb4_3; replace cb4_4 := pw_cell_below hb_ cb4_4; replace cb4_5 := pw_cell_below hb_ cb4_5; replace cb4_6 := pw_cell_below hb_ cb4_6; replace cb4_7 := pw_cell_below hb_ cb4_7; replace cb4_8 := pw_cell_below hb_ cb4_8; replace Kb4 := Aside0.mk ((hb_.block _ (blk_lt Kb4.out)).trans Kb4.out); clear hb_; rw [HOK1.out])
          | ((with_reducible refine gate_dst (N := 9) rfl ?_); refine box_event ?hg (N := 9) ?hd (cs := #[.int .i64 0, .int .i64 0]) (t := 38) ?hr ?_; (case hd => rfl); (case hg => rfl); (case hr => first | (go_simp; done) | (go_simp; rfl)); intro b92 hb92 w22 Kb92 hb_; have Gb92 := Aside0.mk (by rw [hb92]; exact HB.out.size : W.heap.size ≤ b92); have Nb4_b92 := Aside0.mk (fun e => by have := blk_lt Kb4.out; omega : b4 ≠ b92); replace HB := Aside0.mk (below_step HB.out hb_); clear hb92; replace cb4_0 := pw_cell_below hb_ cb4_0; replace cb4_1 := pw_cell_below hb_ cb4_1; replace cb4_2 := pw_cell_below hb_ cb4_2; replace cb4_3 := pw_cell_below hb_ cb4_3; replace cb4_4 := pw_cell_below hb_ cb4_4; replace cb4_5 := pw_cell_below hb_ cb4_5; replace cb4_6 := pw_cell_below hb_ cb4_6; replace cb4_7 := pw_cell_below hb_ cb4_7; replace cb4_8 := pw_cell_below hb_ cb4_8; replace Kb4 := Aside0.mk ((hb_.block _ (blk_lt Kb4.out)).trans Kb4.out); clear hb_; replace Kb92 := Aside0.mk Kb92)
          | (refine store_agg rfl 38 (.tmp 9) (.tmp 19) rfl rfl b92 #[.int .i64 (ofT 1 of), .int .i64 (ofI 1 of)] 38 _ rfl rfl Kb92.out size38 rfl (by simp [Value.oneCell']) ?_; intro w32 k_ g_; replace HB := Aside0.mk (HB.out.grown g_ HB.out.size (fun r e => by cases e; exact Gb92.out)); replace Kb4 := Aside0.mk (blk_grown Kb4.out g_ (fun e => by cases e; exact Nb4_b92.out rfl)); clear Kb92; have Kb92 := Aside0.mk k_; clear k_ g_; clear cb4_0; clear cb4_1; clear cb4_2; clear cb4_3; clear cb4_4; clear cb4_5; clear cb4_6; clear cb4_7; clear cb4_8; have cb4_0 := blk_cell Kb4.out 0; have cb4_1 := blk_cell Kb4.out 1; have cb4_2 := blk_cell Kb4.out 2; have cb4_3 := blk_cell Kb4.out 3; have cb4_4 := blk_cell Kb4.out 4; have cb4_5 := blk_cell Kb4.out 5; have cb4_6 := blk_cell Kb4.out 6; have cb4_7 := blk_cell Kb4.out 7; have cb4_8 := blk_cell Kb4.out 8; simp only [List.getElem?_toArray, List.getElem?_cons_zero, List.getElem?_cons_succ] at cb4_0 cb4_1 cb4_2 cb4_3 cb4_4 cb4_5 cb4_6 cb4_7 cb4_8)
          | fail)
    rw [rounds_succ]
    go_wp2
    (try simp only [Exit.inBlock, Exit.then, Exit.noGoto])
    go_ret
    exact ⟨by rw [HE.out]; rfl, HB.out⟩
  case true =>
    have HOK3 := Aside0.mk (show (okH of && okT 3) = true by rw [h0]; rfl)
    have HI3 := Aside0.mk (show ofI 3 of = idx 3 of by rw [ofI, if_pos HOK3.out])
    have HTT3 := Aside0.mk (show ofT 3 of = 3 by rw [ofT, if_pos HOK3.out])
    have HOK2 := Aside0.mk (show (okH of && okT 2) = true by rw [h0]; rfl)
    have HI2 := Aside0.mk (show ofI 2 of = idx 2 of by rw [ofI, if_pos HOK2.out])
    have HTT2 := Aside0.mk (show ofT 2 of = 2 by rw [ofT, if_pos HOK2.out])
    have HOK1 := Aside0.mk (show (okH of && okT 1) = true by rw [h0]; rfl)
    have HI1 := Aside0.mk (show ofI 1 of = idx 1 of by rw [ofI, if_pos HOK1.out])
    have HTT1 := Aside0.mk (show ofT 1 of = 1 by rw [ofT, if_pos HOK1.out])
    cases h3 : dueP p 3 (idx 3 of) hour
    case true =>
      have HE := Aside0.mk (show bestP p of hour = 3 by rw [bestP, h0, if_pos rfl, h3, if_pos rfl])
      have HD3 := Aside0.mk h3
      clear h0 h3
      go_enter Tryz.func11, Tryz.ntmps11
      go_wp2_with (first
            | ((with_reducible refine gate_dst (N := 4) rfl ?_); refine box_event ?hg (N := 4) ?hd (cs := #[.int .i64 p.r0, .int .i64 p.r1, .int .i64 p.r2, .int .i64 p.r3, .int .i64 p.r4, .int .i64 p.r5, .int .i64 p.r6, .int .i64 p.r7, .int .i64 p.r8]) (t := 25) ?hr ?_; (case hd => rfl); (case hg => rfl); (case hr => first | (go_simp; done) | (go_simp; rfl)); intro b4 hb4 w0_ Kb4 hb_; have Gb4 := Aside0.mk (by rw [hb4]; exact HB.out.size : W.heap.size ≤ b4); replace HB := Aside0.mk (below_step HB.out hb_); clear hb4; clear hb_; have cb4_0 := blk_cell Kb4 0; have cb4_1 := blk_cell Kb4 1; have cb4_2 := blk_cell Kb4 2; have cb4_3 := blk_cell Kb4 3; have cb4_4 := blk_cell Kb4 4; have cb4_5 := blk_cell Kb4 5; have cb4_6 := blk_cell Kb4 6; have cb4_7 := blk_cell Kb4 7; have cb4_8 := blk_cell Kb4 8; simp only [List.getElem?_toArray, List.getElem?_cons_zero, List.getElem?_cons_succ] at cb4_0 cb4_1 cb4_2 cb4_3 cb4_4 cb4_5 cb4_6 cb4_7 cb4_8; replace Kb4 := Aside0.mk Kb4)
            | fail)
      refine wp_scope_straight ?_
      refine wp_seq_k (fun K0 hK0 => wp_label ?_)
      apply hK0
      go_wp2
      refine wp_loop_rounds 4 ?_
      rw [rounds_succ]
      go_wp2_with (first
            | (go_at_call 36; refine (of_calls _ 3 of).mono ?_; rintro e w10 ⟨rfl, hb_⟩; replace HB := Aside0.mk (below_step HB.out hb_); replace cb4_0 := pw_cell_below hb_ cb4_0; replace cb4_1 := pw_cell_below hb_ cb4_1; replace cb4_2 := pw_cell_below hb_ cb4_2; replace cb4_3 := pw_cell_below hb_ cb4_3; replace cb4_4 := pw_cell_below hb_ cb4_4; replace cb4_5 := pw_cell_below hb_ cb4_5; replace cb4_6 := pw_cell_below hb_ cb4_6; replace cb4_7 := pw_cell_below hb_ cb4_7; replace cb4_8 := pw_cell_below hb_ cb4_8; replace Kb4 := Aside0.mk ((hb_.block _ (blk_lt Kb4.out)).trans Kb4.out); clear hb_; rw [HOK3.out, HI3.out, HTT3.out])
            | ((with_reducible refine gate_dst (N := 9) rfl ?_); refine box_event ?hg (N := 9) ?hd (cs := #[.int .i64 0, .int .i64 0]) (t := 38) ?hr ?_; (case hd => rfl); (case hg => rfl); (case hr => first | (go_simp; done) | (go_simp; rfl)); intro b90 hb90 w20 Kb90 hb_; have Gb90 := Aside0.mk (by rw [hb90]; exact HB.out.size : W.heap.size ≤ b90); have Nb4_b90 := Aside0.mk (fun e => by have := blk_lt Kb4.out; omega : b4 ≠ b90); replace HB := Aside0.mk (below_step HB.out hb_); clear hb90; replace cb4_0 := pw_cell_below hb_ cb4_0; replace cb4_1 := pw_cell_below hb_ cb4_1; replace cb4_2 := pw_cell_below hb_ cb4_2; replace cb4_3 := pw_cell_below hb_ cb4_3; replace cb4_4 := pw_cell_below hb_ cb4_4; replace cb4_5 := pw_cell_below hb_ cb4_5; replace cb4_6 := pw_cell_below hb_ cb4_6; replace cb4_7 := pw_cell_below hb_ cb4_7; replace cb4_8 := pw_cell_below hb_ cb4_8; replace Kb4 := Aside0.mk ((hb_.block _ (blk_lt Kb4.out)).trans Kb4.out); clear hb_; replace Kb90 := Aside0.mk Kb90)
            | (refine store_agg rfl 38 (.tmp 9) (.tmp 19) rfl rfl b90 #[.int .i64 3, .int .i64 (idx 3 of)] 38 _ rfl rfl Kb90.out size38 rfl (by simp [Value.oneCell']) ?_; intro w30 k_ g_; replace HB := Aside0.mk (HB.out.grown g_ HB.out.size (fun r e => by cases e; exact Gb90.out)); replace Kb4 := Aside0.mk (blk_grown Kb4.out g_ (fun e => by cases e; exact Nb4_b90.out rfl)); clear Kb90; have Kb90 := Aside0.mk k_; clear k_ g_; clear cb4_0; clear cb4_1; clear cb4_2; clear cb4_3; clear cb4_4; clear cb4_5; clear cb4_6; clear cb4_7; clear cb4_8; have cb90_0 := blk_cell Kb90.out 0; have cb90_1 := blk_cell Kb90.out 1; have cb4_0 := blk_cell Kb4.out 0; have cb4_1 := blk_cell Kb4.out 1; have cb4_2 := blk_cell Kb4.out 2; have cb4_3 := blk_cell Kb4.out 3; have cb4_4 := blk_cell Kb4.out 4; have cb4_5 := blk_cell Kb4.out 5; have cb4_6 := blk_cell Kb4.out 6; have cb4_7 := blk_cell Kb4.out 7; have cb4_8 := blk_cell Kb4.out 8; simp only [List.getElem?_toArray, List.getElem?_cons_zero, List.getElem?_cons_succ] at cb90_0 cb90_1 cb4_0 cb4_1 cb4_2 cb4_3 cb4_4 cb4_5 cb4_6 cb4_7 cb4_8)
            | (go_at_call 37; refine (due_calls _ p 3 (idx 3 of) hour HPOK.out HH.out).mono ?_; rintro e w40 ⟨rfl, hb_⟩; replace HB := Aside0.mk (below_step HB.out hb_); replace cb4_0 := pw_cell_below hb_ cb4_0; replace cb4_1 := pw_cell_below hb_ cb4_1; replace cb4_2 := pw_cell_below hb_ cb4_2; replace cb4_3 := pw_cell_below hb_ cb4_3; replace cb4_4 := pw_cell_below hb_ cb4_4; replace cb4_5 := pw_cell_below hb_ cb4_5; replace cb4_6 := pw_cell_below hb_ cb4_6; replace cb4_7 := pw_cell_below hb_ cb4_7; replace cb4_8 := pw_cell_below hb_ cb4_8; replace Kb4 := Aside0.mk ((hb_.block _ (blk_lt Kb4.out)).trans Kb4.out); clear hb_; rw [HD3.out])
            | fail)
      (try simp only [Exit.inBlock, Exit.then, Exit.noGoto])
      go_ret
      exact ⟨by rw [HE.out]; rfl, HB.out⟩
    case false =>
      have HD3 := Aside0.mk h3
      cases h2 : dueP p 2 (idx 2 of) hour
      case true =>
        have HE := Aside0.mk (show bestP p of hour = 2 by rw [bestP, h0, if_pos rfl, h3, if_neg (by decide), h2, if_pos rfl])
        have HD2 := Aside0.mk h2
        clear h0 h3 h2
        go_enter Tryz.func11, Tryz.ntmps11
        go_wp2_with (first
              | ((with_reducible refine gate_dst (N := 4) rfl ?_); refine box_event ?hg (N := 4) ?hd (cs := #[.int .i64 p.r0, .int .i64 p.r1, .int .i64 p.r2, .int .i64 p.r3, .int .i64 p.r4, .int .i64 p.r5, .int .i64 p.r6, .int .i64 p.r7, .int .i64 p.r8]) (t := 25) ?hr ?_; (case hd => rfl); (case hg => rfl); (case hr => first | (go_simp; done) | (go_simp; rfl)); intro b4 hb4 w0_ Kb4 hb_; have Gb4 := Aside0.mk (by rw [hb4]; exact HB.out.size : W.heap.size ≤ b4); replace HB := Aside0.mk (below_step HB.out hb_); clear hb4; clear hb_; have cb4_0 := blk_cell Kb4 0; have cb4_1 := blk_cell Kb4 1; have cb4_2 := blk_cell Kb4 2; have cb4_3 := blk_cell Kb4 3; have cb4_4 := blk_cell Kb4 4; have cb4_5 := blk_cell Kb4 5; have cb4_6 := blk_cell Kb4 6; have cb4_7 := blk_cell Kb4 7; have cb4_8 := blk_cell Kb4 8; simp only [List.getElem?_toArray, List.getElem?_cons_zero, List.getElem?_cons_succ] at cb4_0 cb4_1 cb4_2 cb4_3 cb4_4 cb4_5 cb4_6 cb4_7 cb4_8; replace Kb4 := Aside0.mk Kb4)
              | fail)
        refine wp_scope_straight ?_
        refine wp_seq_k (fun K0 hK0 => wp_label ?_)
        apply hK0
        go_wp2
        refine wp_loop_rounds 4 ?_
        rw [rounds_succ]
        go_wp2_with (first
              | (go_at_call 36; refine (of_calls _ 3 of).mono ?_; rintro e w10 ⟨rfl, hb_⟩; replace HB := Aside0.mk (below_step HB.out hb_); replace cb4_0 := pw_cell_below hb_ cb4_0; replace cb4_1 := pw_cell_below hb_ cb4_1; replace cb4_2 := pw_cell_below hb_ cb4_2; replace cb4_3 := pw_cell_below hb_ cb4_3; replace cb4_4 := pw_cell_below hb_ cb4_4; replace cb4_5 := pw_cell_below hb_ cb4_5; replace cb4_6 := pw_cell_below hb_ cb4_6; replace cb4_7 := pw_cell_below hb_ cb4_7; replace cb4_8 := pw_cell_below hb_ cb4_8; replace Kb4 := Aside0.mk ((hb_.block _ (blk_lt Kb4.out)).trans Kb4.out); clear hb_; rw [HOK3.out, HI3.out, HTT3.out])
              | ((with_reducible refine gate_dst (N := 9) rfl ?_); refine box_event ?hg (N := 9) ?hd (cs := #[.int .i64 0, .int .i64 0]) (t := 38) ?hr ?_; (case hd => rfl); (case hg => rfl); (case hr => first | (go_simp; done) | (go_simp; rfl)); intro b90 hb90 w20 Kb90 hb_; have Gb90 := Aside0.mk (by rw [hb90]; exact HB.out.size : W.heap.size ≤ b90); have Nb4_b90 := Aside0.mk (fun e => by have := blk_lt Kb4.out; omega : b4 ≠ b90); replace HB := Aside0.mk (below_step HB.out hb_); clear hb90; replace cb4_0 := pw_cell_below hb_ cb4_0; replace cb4_1 := pw_cell_below hb_ cb4_1; replace cb4_2 := pw_cell_below hb_ cb4_2; replace cb4_3 := pw_cell_below hb_ cb4_3; replace cb4_4 := pw_cell_below hb_ cb4_4; replace cb4_5 := pw_cell_below hb_ cb4_5; replace cb4_6 := pw_cell_below hb_ cb4_6; replace cb4_7 := pw_cell_below hb_ cb4_7; replace cb4_8 := pw_cell_below hb_ cb4_8; replace Kb4 := Aside0.mk ((hb_.block _ (blk_lt Kb4.out)).trans Kb4.out); clear hb_; replace Kb90 := Aside0.mk Kb90)
              | (refine store_agg rfl 38 (.tmp 9) (.tmp 19) rfl rfl b90 #[.int .i64 3, .int .i64 (idx 3 of)] 38 _ rfl rfl Kb90.out size38 rfl (by simp [Value.oneCell']) ?_; intro w30 k_ g_; replace HB := Aside0.mk (HB.out.grown g_ HB.out.size (fun r e => by cases e; exact Gb90.out)); replace Kb4 := Aside0.mk (blk_grown Kb4.out g_ (fun e => by cases e; exact Nb4_b90.out rfl)); clear Kb90; have Kb90 := Aside0.mk k_; clear k_ g_; clear cb4_0; clear cb4_1; clear cb4_2; clear cb4_3; clear cb4_4; clear cb4_5; clear cb4_6; clear cb4_7; clear cb4_8; have cb90_0 := blk_cell Kb90.out 0; have cb90_1 := blk_cell Kb90.out 1; have cb4_0 := blk_cell Kb4.out 0; have cb4_1 := blk_cell Kb4.out 1; have cb4_2 := blk_cell Kb4.out 2; have cb4_3 := blk_cell Kb4.out 3; have cb4_4 := blk_cell Kb4.out 4; have cb4_5 := blk_cell Kb4.out 5; have cb4_6 := blk_cell Kb4.out 6; have cb4_7 := blk_cell Kb4.out 7; have cb4_8 := blk_cell Kb4.out 8; simp only [List.getElem?_toArray, List.getElem?_cons_zero, List.getElem?_cons_succ] at cb90_0 cb90_1 cb4_0 cb4_1 cb4_2 cb4_3 cb4_4 cb4_5 cb4_6 cb4_7 cb4_8)
              | (go_at_call 37; refine (due_calls _ p 3 (idx 3 of) hour HPOK.out HH.out).mono ?_; rintro e w40 ⟨rfl, hb_⟩; replace HB := Aside0.mk (below_step HB.out hb_); replace cb4_0 := pw_cell_below hb_ cb4_0; replace cb4_1 := pw_cell_below hb_ cb4_1; replace cb4_2 := pw_cell_below hb_ cb4_2; replace cb4_3 := pw_cell_below hb_ cb4_3; replace cb4_4 := pw_cell_below hb_ cb4_4; replace cb4_5 := pw_cell_below hb_ cb4_5; replace cb4_6 := pw_cell_below hb_ cb4_6; replace cb4_7 := pw_cell_below hb_ cb4_7; replace cb4_8 := pw_cell_below hb_ cb4_8; replace Kb4 := Aside0.mk ((hb_.block _ (blk_lt Kb4.out)).trans Kb4.out); clear hb_; rw [HD3.out])
              | fail)
        rw [rounds_succ]
        go_wp2_with (first
              | (go_at_call 36; refine (of_calls _ 2 of).mono ?_; rintro e w11 ⟨rfl, hb_⟩; replace HB := Aside0.mk (below_step HB.out hb_); replace cb4_0 := pw_cell_below hb_ cb4_0; replace cb4_1 := pw_cell_below hb_ cb4_1; replace cb4_2 := pw_cell_below hb_ cb4_2; replace cb4_3 := pw_cell_below hb_ cb4_3; replace cb4_4 := pw_cell_below hb_ cb4_4; replace cb4_5 := pw_cell_below hb_ cb4_5; replace cb4_6 := pw_cell_below hb_ cb4_6; replace cb4_7 := pw_cell_below hb_ cb4_7; replace cb4_8 := pw_cell_below hb_ cb4_8; replace Kb4 := Aside0.mk ((hb_.block _ (blk_lt Kb4.out)).trans Kb4.out); clear hb_; rw [HOK2.out, HI2.out, HTT2.out])
              | ((with_reducible refine gate_dst (N := 9) rfl ?_); refine box_event ?hg (N := 9) ?hd (cs := #[.int .i64 0, .int .i64 0]) (t := 38) ?hr ?_; (case hd => rfl); (case hg => rfl); (case hr => first | (go_simp; done) | (go_simp; rfl)); intro b91 hb91 w21 Kb91 hb_; have Gb91 := Aside0.mk (by rw [hb91]; exact HB.out.size : W.heap.size ≤ b91); have Nb4_b91 := Aside0.mk (fun e => by have := blk_lt Kb4.out; omega : b4 ≠ b91); replace HB := Aside0.mk (below_step HB.out hb_); clear hb91; replace cb4_0 := pw_cell_below hb_ cb4_0; replace cb4_1 := pw_cell_below hb_ cb4_1; replace cb4_2 := pw_cell_below hb_ cb4_2; replace cb4_3 := pw_cell_below hb_ cb4_3; replace cb4_4 := pw_cell_below hb_ cb4_4; replace cb4_5 := pw_cell_below hb_ cb4_5; replace cb4_6 := pw_cell_below hb_ cb4_6; replace cb4_7 := pw_cell_below hb_ cb4_7; replace cb4_8 := pw_cell_below hb_ cb4_8; replace Kb4 := Aside0.mk ((hb_.block _ (blk_lt Kb4.out)).trans Kb4.out); clear hb_; replace Kb91 := Aside0.mk Kb91)
              | (refine store_agg rfl 38 (.tmp 9) (.tmp 19) rfl rfl b91 #[.int .i64 2, .int .i64 (idx 2 of)] 38 _ rfl rfl Kb91.out size38 rfl (by simp [Value.oneCell']) ?_; intro w31 k_ g_; replace HB := Aside0.mk (HB.out.grown g_ HB.out.size (fun r e => by cases e; exact Gb91.out)); replace Kb4 := Aside0.mk (blk_grown Kb4.out g_ (fun e => by cases e; exact Nb4_b91.out rfl)); clear Kb91; have Kb91 := Aside0.mk k_; clear k_ g_; clear cb4_0; clear cb4_1; clear cb4_2; clear cb4_3; clear cb4_4; clear cb4_5; clear cb4_6; clear cb4_7; clear cb4_8; have cb91_0 := blk_cell Kb91.out 0; have cb91_1 := blk_cell Kb91.out 1; have cb4_0 := blk_cell Kb4.out 0; have cb4_1 := blk_cell Kb4.out 1; have cb4_2 := blk_cell Kb4.out 2; have cb4_3 := blk_cell Kb4.out 3; have cb4_4 := blk_cell Kb4.out 4; have cb4_5 := blk_cell Kb4.out 5; have cb4_6 := blk_cell Kb4.out 6; have cb4_7 := blk_cell Kb4.out 7; have cb4_8 := blk_cell Kb4.out 8; simp only [List.getElem?_toArray, List.getElem?_cons_zero, List.getElem?_cons_succ] at cb91_0 cb91_1 cb4_0 cb4_1 cb4_2 cb4_3 cb4_4 cb4_5 cb4_6 cb4_7 cb4_8)
              | (go_at_call 37; refine (due_calls _ p 2 (idx 2 of) hour HPOK.out HH.out).mono ?_; rintro e w41 ⟨rfl, hb_⟩; replace HB := Aside0.mk (below_step HB.out hb_); replace cb4_0 := pw_cell_below hb_ cb4_0; replace cb4_1 := pw_cell_below hb_ cb4_1; replace cb4_2 := pw_cell_below hb_ cb4_2; replace cb4_3 := pw_cell_below hb_ cb4_3; replace cb4_4 := pw_cell_below hb_ cb4_4; replace cb4_5 := pw_cell_below hb_ cb4_5; replace cb4_6 := pw_cell_below hb_ cb4_6; replace cb4_7 := pw_cell_below hb_ cb4_7; replace cb4_8 := pw_cell_below hb_ cb4_8; replace Kb4 := Aside0.mk ((hb_.block _ (blk_lt Kb4.out)).trans Kb4.out); clear hb_; rw [HD2.out])
              | fail)
        (try simp only [Exit.inBlock, Exit.then, Exit.noGoto])
        go_ret
        exact ⟨by rw [HE.out]; rfl, HB.out⟩
      case false =>
        have HD2 := Aside0.mk h2
        cases h1 : dueP p 1 (idx 1 of) hour
        case true =>
          have HE := Aside0.mk (show bestP p of hour = 1 by rw [bestP, h0, if_pos rfl, h3, if_neg (by decide), h2, if_neg (by decide), h1, if_pos rfl])
          have HD1 := Aside0.mk h1
          clear h0 h3 h2 h1
          go_enter Tryz.func11, Tryz.ntmps11
          go_wp2_with (first
                | ((with_reducible refine gate_dst (N := 4) rfl ?_); refine box_event ?hg (N := 4) ?hd (cs := #[.int .i64 p.r0, .int .i64 p.r1, .int .i64 p.r2, .int .i64 p.r3, .int .i64 p.r4, .int .i64 p.r5, .int .i64 p.r6, .int .i64 p.r7, .int .i64 p.r8]) (t := 25) ?hr ?_; (case hd => rfl); (case hg => rfl); (case hr => first | (go_simp; done) | (go_simp; rfl)); intro b4 hb4 w0_ Kb4 hb_; have Gb4 := Aside0.mk (by rw [hb4]; exact HB.out.size : W.heap.size ≤ b4); replace HB := Aside0.mk (below_step HB.out hb_); clear hb4; clear hb_; have cb4_0 := blk_cell Kb4 0; have cb4_1 := blk_cell Kb4 1; have cb4_2 := blk_cell Kb4 2; have cb4_3 := blk_cell Kb4 3; have cb4_4 := blk_cell Kb4 4; have cb4_5 := blk_cell Kb4 5; have cb4_6 := blk_cell Kb4 6; have cb4_7 := blk_cell Kb4 7; have cb4_8 := blk_cell Kb4 8; simp only [List.getElem?_toArray, List.getElem?_cons_zero, List.getElem?_cons_succ] at cb4_0 cb4_1 cb4_2 cb4_3 cb4_4 cb4_5 cb4_6 cb4_7 cb4_8; replace Kb4 := Aside0.mk Kb4)
                | fail)
          refine wp_scope_straight ?_
          refine wp_seq_k (fun K0 hK0 => wp_label ?_)
          apply hK0
          go_wp2
          refine wp_loop_rounds 4 ?_
          rw [rounds_succ]
          go_wp2_with (first
                | (go_at_call 36; refine (of_calls _ 3 of).mono ?_; rintro e w10 ⟨rfl, hb_⟩; replace HB := Aside0.mk (below_step HB.out hb_); replace cb4_0 := pw_cell_below hb_ cb4_0; replace cb4_1 := pw_cell_below hb_ cb4_1; replace cb4_2 := pw_cell_below hb_ cb4_2; replace cb4_3 := pw_cell_below hb_ cb4_3; replace cb4_4 := pw_cell_below hb_ cb4_4; replace cb4_5 := pw_cell_below hb_ cb4_5; replace cb4_6 := pw_cell_below hb_ cb4_6; replace cb4_7 := pw_cell_below hb_ cb4_7; replace cb4_8 := pw_cell_below hb_ cb4_8; replace Kb4 := Aside0.mk ((hb_.block _ (blk_lt Kb4.out)).trans Kb4.out); clear hb_; rw [HOK3.out, HI3.out, HTT3.out])
                | ((with_reducible refine gate_dst (N := 9) rfl ?_); refine box_event ?hg (N := 9) ?hd (cs := #[.int .i64 0, .int .i64 0]) (t := 38) ?hr ?_; (case hd => rfl); (case hg => rfl); (case hr => first | (go_simp; done) | (go_simp; rfl)); intro b90 hb90 w20 Kb90 hb_; have Gb90 := Aside0.mk (by rw [hb90]; exact HB.out.size : W.heap.size ≤ b90); have Nb4_b90 := Aside0.mk (fun e => by have := blk_lt Kb4.out; omega : b4 ≠ b90); replace HB := Aside0.mk (below_step HB.out hb_); clear hb90; replace cb4_0 := pw_cell_below hb_ cb4_0; replace cb4_1 := pw_cell_below hb_ cb4_1; replace cb4_2 := pw_cell_below hb_ cb4_2; replace cb4_3 := pw_cell_below hb_ cb4_3; replace cb4_4 := pw_cell_below hb_ cb4_4; replace cb4_5 := pw_cell_below hb_ cb4_5; replace cb4_6 := pw_cell_below hb_ cb4_6; replace cb4_7 := pw_cell_below hb_ cb4_7; replace cb4_8 := pw_cell_below hb_ cb4_8; replace Kb4 := Aside0.mk ((hb_.block _ (blk_lt Kb4.out)).trans Kb4.out); clear hb_; replace Kb90 := Aside0.mk Kb90)
                | (refine store_agg rfl 38 (.tmp 9) (.tmp 19) rfl rfl b90 #[.int .i64 3, .int .i64 (idx 3 of)] 38 _ rfl rfl Kb90.out size38 rfl (by simp [Value.oneCell']) ?_; intro w30 k_ g_; replace HB := Aside0.mk (HB.out.grown g_ HB.out.size (fun r e => by cases e; exact Gb90.out)); replace Kb4 := Aside0.mk (blk_grown Kb4.out g_ (fun e => by cases e; exact Nb4_b90.out rfl)); clear Kb90; have Kb90 := Aside0.mk k_; clear k_ g_; clear cb4_0; clear cb4_1; clear cb4_2; clear cb4_3; clear cb4_4; clear cb4_5; clear cb4_6; clear cb4_7; clear cb4_8; have cb90_0 := blk_cell Kb90.out 0; have cb90_1 := blk_cell Kb90.out 1; have cb4_0 := blk_cell Kb4.out 0; have cb4_1 := blk_cell Kb4.out 1; have cb4_2 := blk_cell Kb4.out 2; have cb4_3 := blk_cell Kb4.out 3; have cb4_4 := blk_cell Kb4.out 4; have cb4_5 := blk_cell Kb4.out 5; have cb4_6 := blk_cell Kb4.out 6; have cb4_7 := blk_cell Kb4.out 7; have cb4_8 := blk_cell Kb4.out 8; simp only [List.getElem?_toArray, List.getElem?_cons_zero, List.getElem?_cons_succ] at cb90_0 cb90_1 cb4_0 cb4_1 cb4_2 cb4_3 cb4_4 cb4_5 cb4_6 cb4_7 cb4_8)
                | (go_at_call 37; refine (due_calls _ p 3 (idx 3 of) hour HPOK.out HH.out).mono ?_; rintro e w40 ⟨rfl, hb_⟩; replace HB := Aside0.mk (below_step HB.out hb_); replace cb4_0 := pw_cell_below hb_ cb4_0; replace cb4_1 := pw_cell_below hb_ cb4_1; replace cb4_2 := pw_cell_below hb_ cb4_2; replace cb4_3 := pw_cell_below hb_ cb4_3; replace cb4_4 := pw_cell_below hb_ cb4_4; replace cb4_5 := pw_cell_below hb_ cb4_5; replace cb4_6 := pw_cell_below hb_ cb4_6; replace cb4_7 := pw_cell_below hb_ cb4_7; replace cb4_8 := pw_cell_below hb_ cb4_8; replace Kb4 := Aside0.mk ((hb_.block _ (blk_lt Kb4.out)).trans Kb4.out); clear hb_; rw [HD3.out])
                | fail)
          rw [rounds_succ]
          go_wp2_with (first
                | (go_at_call 36; refine (of_calls _ 2 of).mono ?_; rintro e w11 ⟨rfl, hb_⟩; replace HB := Aside0.mk (below_step HB.out hb_); replace cb4_0 := pw_cell_below hb_ cb4_0; replace cb4_1 := pw_cell_below hb_ cb4_1; replace cb4_2 := pw_cell_below hb_ cb4_2; replace cb4_3 := pw_cell_below hb_ cb4_3; replace cb4_4 := pw_cell_below hb_ cb4_4; replace cb4_5 := pw_cell_below hb_ cb4_5; replace cb4_6 := pw_cell_below hb_ cb4_6; replace cb4_7 := pw_cell_below hb_ cb4_7; replace cb4_8 := pw_cell_below hb_ cb4_8; replace Kb4 := Aside0.mk ((hb_.block _ (blk_lt Kb4.out)).trans Kb4.out); clear hb_; rw [HOK2.out, HI2.out, HTT2.out])
                | ((with_reducible refine gate_dst (N := 9) rfl ?_); refine box_event ?hg (N := 9) ?hd (cs := #[.int .i64 0, .int .i64 0]) (t := 38) ?hr ?_; (case hd => rfl); (case hg => rfl); (case hr => first | (go_simp; done) | (go_simp; rfl)); intro b91 hb91 w21 Kb91 hb_; have Gb91 := Aside0.mk (by rw [hb91]; exact HB.out.size : W.heap.size ≤ b91); have Nb4_b91 := Aside0.mk (fun e => by have := blk_lt Kb4.out; omega : b4 ≠ b91); replace HB := Aside0.mk (below_step HB.out hb_); clear hb91; replace cb4_0 := pw_cell_below hb_ cb4_0; replace cb4_1 := pw_cell_below hb_ cb4_1; replace cb4_2 := pw_cell_below hb_ cb4_2; replace cb4_3 := pw_cell_below hb_ cb4_3; replace cb4_4 := pw_cell_below hb_ cb4_4; replace cb4_5 := pw_cell_below hb_ cb4_5; replace cb4_6 := pw_cell_below hb_ cb4_6; replace cb4_7 := pw_cell_below hb_ cb4_7; replace cb4_8 := pw_cell_below hb_ cb4_8; replace Kb4 := Aside0.mk ((hb_.block _ (blk_lt Kb4.out)).trans Kb4.out); clear hb_; replace Kb91 := Aside0.mk Kb91)
                | (refine store_agg rfl 38 (.tmp 9) (.tmp 19) rfl rfl b91 #[.int .i64 2, .int .i64 (idx 2 of)] 38 _ rfl rfl Kb91.out size38 rfl (by simp [Value.oneCell']) ?_; intro w31 k_ g_; replace HB := Aside0.mk (HB.out.grown g_ HB.out.size (fun r e => by cases e; exact Gb91.out)); replace Kb4 := Aside0.mk (blk_grown Kb4.out g_ (fun e => by cases e; exact Nb4_b91.out rfl)); clear Kb91; have Kb91 := Aside0.mk k_; clear k_ g_; clear cb4_0; clear cb4_1; clear cb4_2; clear cb4_3; clear cb4_4; clear cb4_5; clear cb4_6; clear cb4_7; clear cb4_8; have cb91_0 := blk_cell Kb91.out 0; have cb91_1 := blk_cell Kb91.out 1; have cb4_0 := blk_cell Kb4.out 0; have cb4_1 := blk_cell Kb4.out 1; have cb4_2 := blk_cell Kb4.out 2; have cb4_3 := blk_cell Kb4.out 3; have cb4_4 := blk_cell Kb4.out 4; have cb4_5 := blk_cell Kb4.out 5; have cb4_6 := blk_cell Kb4.out 6; have cb4_7 := blk_cell Kb4.out 7; have cb4_8 := blk_cell Kb4.out 8; simp only [List.getElem?_toArray, List.getElem?_cons_zero, List.getElem?_cons_succ] at cb91_0 cb91_1 cb4_0 cb4_1 cb4_2 cb4_3 cb4_4 cb4_5 cb4_6 cb4_7 cb4_8)
                | (go_at_call 37; refine (due_calls _ p 2 (idx 2 of) hour HPOK.out HH.out).mono ?_; rintro e w41 ⟨rfl, hb_⟩; replace HB := Aside0.mk (below_step HB.out hb_); replace cb4_0 := pw_cell_below hb_ cb4_0; replace cb4_1 := pw_cell_below hb_ cb4_1; replace cb4_2 := pw_cell_below hb_ cb4_2; replace cb4_3 := pw_cell_below hb_ cb4_3; replace cb4_4 := pw_cell_below hb_ cb4_4; replace cb4_5 := pw_cell_below hb_ cb4_5; replace cb4_6 := pw_cell_below hb_ cb4_6; replace cb4_7 := pw_cell_below hb_ cb4_7; replace cb4_8 := pw_cell_below hb_ cb4_8; replace Kb4 := Aside0.mk ((hb_.block _ (blk_lt Kb4.out)).trans Kb4.out); clear hb_; rw [HD2.out])
                | fail)
          rw [rounds_succ]
          go_wp2_with (first
                | (go_at_call 36; refine (of_calls _ 1 of).mono ?_; rintro e w12 ⟨rfl, hb_⟩; replace HB := Aside0.mk (below_step HB.out hb_); replace cb4_0 := pw_cell_below hb_ cb4_0; replace cb4_1 := pw_cell_below hb_ cb4_1; replace cb4_2 := pw_cell_below hb_ cb4_2; replace cb4_3 := pw_cell_below hb_ cb4_3; replace cb4_4 := pw_cell_below hb_ cb4_4; replace cb4_5 := pw_cell_below hb_ cb4_5; replace cb4_6 := pw_cell_below hb_ cb4_6; replace cb4_7 := pw_cell_below hb_ cb4_7; replace cb4_8 := pw_cell_below hb_ cb4_8; replace Kb4 := Aside0.mk ((hb_.block _ (blk_lt Kb4.out)).trans Kb4.out); clear hb_; rw [HOK1.out, HI1.out, HTT1.out])
                | ((with_reducible refine gate_dst (N := 9) rfl ?_); refine box_event ?hg (N := 9) ?hd (cs := #[.int .i64 0, .int .i64 0]) (t := 38) ?hr ?_; (case hd => rfl); (case hg => rfl); (case hr => first | (go_simp; done) | (go_simp; rfl)); intro b92 hb92 w22 Kb92 hb_; have Gb92 := Aside0.mk (by rw [hb92]; exact HB.out.size : W.heap.size ≤ b92); have Nb4_b92 := Aside0.mk (fun e => by have := blk_lt Kb4.out; omega : b4 ≠ b92); replace HB := Aside0.mk (below_step HB.out hb_); clear hb92; replace cb4_0 := pw_cell_below hb_ cb4_0; replace cb4_1 := pw_cell_below hb_ cb4_1; replace cb4_2 := pw_cell_below hb_ cb4_2; replace cb4_3 := pw_cell_below hb_ cb4_3; replace cb4_4 := pw_cell_below hb_ cb4_4; replace cb4_5 := pw_cell_below hb_ cb4_5; replace cb4_6 := pw_cell_below hb_ cb4_6; replace cb4_7 := pw_cell_below hb_ cb4_7; replace cb4_8 := pw_cell_below hb_ cb4_8; replace Kb4 := Aside0.mk ((hb_.block _ (blk_lt Kb4.out)).trans Kb4.out); clear hb_; replace Kb92 := Aside0.mk Kb92)
                | (refine store_agg rfl 38 (.tmp 9) (.tmp 19) rfl rfl b92 #[.int .i64 1, .int .i64 (idx 1 of)] 38 _ rfl rfl Kb92.out size38 rfl (by simp [Value.oneCell']) ?_; intro w32 k_ g_; replace HB := Aside0.mk (HB.out.grown g_ HB.out.size (fun r e => by cases e; exact Gb92.out)); replace Kb4 := Aside0.mk (blk_grown Kb4.out g_ (fun e => by cases e; exact Nb4_b92.out rfl)); clear Kb92; have Kb92 := Aside0.mk k_; clear k_ g_; clear cb4_0; clear cb4_1; clear cb4_2; clear cb4_3; clear cb4_4; clear cb4_5; clear cb4_6; clear cb4_7; clear cb4_8; have cb92_0 := blk_cell Kb92.out 0; have cb92_1 := blk_cell Kb92.out 1; have cb4_0 := blk_cell Kb4.out 0; have cb4_1 := blk_cell Kb4.out 1; have cb4_2 := blk_cell Kb4.out 2; have cb4_3 := blk_cell Kb4.out 3; have cb4_4 := blk_cell Kb4.out 4; have cb4_5 := blk_cell Kb4.out 5; have cb4_6 := blk_cell Kb4.out 6; have cb4_7 := blk_cell Kb4.out 7; have cb4_8 := blk_cell Kb4.out 8; simp only [List.getElem?_toArray, List.getElem?_cons_zero, List.getElem?_cons_succ] at cb92_0 cb92_1 cb4_0 cb4_1 cb4_2 cb4_3 cb4_4 cb4_5 cb4_6 cb4_7 cb4_8)
                | (go_at_call 37; refine (due_calls _ p 1 (idx 1 of) hour HPOK.out HH.out).mono ?_; rintro e w42 ⟨rfl, hb_⟩; replace HB := Aside0.mk (below_step HB.out hb_); replace cb4_0 := pw_cell_below hb_ cb4_0; replace cb4_1 := pw_cell_below hb_ cb4_1; replace cb4_2 := pw_cell_below hb_ cb4_2; replace cb4_3 := pw_cell_below hb_ cb4_3; replace cb4_4 := pw_cell_below hb_ cb4_4; replace cb4_5 := pw_cell_below hb_ cb4_5; replace cb4_6 := pw_cell_below hb_ cb4_6; replace cb4_7 := pw_cell_below hb_ cb4_7; replace cb4_8 := pw_cell_below hb_ cb4_8; replace Kb4 := Aside0.mk ((hb_.block _ (blk_lt Kb4.out)).trans Kb4.out); clear hb_; rw [HD1.out])
                | fail)
          (try simp only [Exit.inBlock, Exit.then, Exit.noGoto])
          go_ret
          exact ⟨by rw [HE.out]; rfl, HB.out⟩
        case false =>
          have HE := Aside0.mk (show bestP p of hour = 0 by rw [bestP, h0, if_pos rfl, h3, if_neg (by decide), h2, if_neg (by decide), h1, if_neg (by decide)])
          have HD1 := Aside0.mk h1
          clear h0 h3 h2 h1
          go_enter Tryz.func11, Tryz.ntmps11
          go_wp2_with (first
                | ((with_reducible refine gate_dst (N := 4) rfl ?_); refine box_event ?hg (N := 4) ?hd (cs := #[.int .i64 p.r0, .int .i64 p.r1, .int .i64 p.r2, .int .i64 p.r3, .int .i64 p.r4, .int .i64 p.r5, .int .i64 p.r6, .int .i64 p.r7, .int .i64 p.r8]) (t := 25) ?hr ?_; (case hd => rfl); (case hg => rfl); (case hr => first | (go_simp; done) | (go_simp; rfl)); intro b4 hb4 w0_ Kb4 hb_; have Gb4 := Aside0.mk (by rw [hb4]; exact HB.out.size : W.heap.size ≤ b4); replace HB := Aside0.mk (below_step HB.out hb_); clear hb4; clear hb_; have cb4_0 := blk_cell Kb4 0; have cb4_1 := blk_cell Kb4 1; have cb4_2 := blk_cell Kb4 2; have cb4_3 := blk_cell Kb4 3; have cb4_4 := blk_cell Kb4 4; have cb4_5 := blk_cell Kb4 5; have cb4_6 := blk_cell Kb4 6; have cb4_7 := blk_cell Kb4 7; have cb4_8 := blk_cell Kb4 8; simp only [List.getElem?_toArray, List.getElem?_cons_zero, List.getElem?_cons_succ] at cb4_0 cb4_1 cb4_2 cb4_3 cb4_4 cb4_5 cb4_6 cb4_7 cb4_8; replace Kb4 := Aside0.mk Kb4)
                | fail)
          refine wp_scope_straight ?_
          refine wp_seq_k (fun K0 hK0 => wp_label ?_)
          apply hK0
          go_wp2
          refine wp_loop_rounds 4 ?_
          rw [rounds_succ]
          go_wp2_with (first
                | (go_at_call 36; refine (of_calls _ 3 of).mono ?_; rintro e w10 ⟨rfl, hb_⟩; replace HB := Aside0.mk (below_step HB.out hb_); replace cb4_0 := pw_cell_below hb_ cb4_0; replace cb4_1 := pw_cell_below hb_ cb4_1; replace cb4_2 := pw_cell_below hb_ cb4_2; replace cb4_3 := pw_cell_below hb_ cb4_3; replace cb4_4 := pw_cell_below hb_ cb4_4; replace cb4_5 := pw_cell_below hb_ cb4_5; replace cb4_6 := pw_cell_below hb_ cb4_6; replace cb4_7 := pw_cell_below hb_ cb4_7; replace cb4_8 := pw_cell_below hb_ cb4_8; replace Kb4 := Aside0.mk ((hb_.block _ (blk_lt Kb4.out)).trans Kb4.out); clear hb_; rw [HOK3.out, HI3.out, HTT3.out])
                | ((with_reducible refine gate_dst (N := 9) rfl ?_); refine box_event ?hg (N := 9) ?hd (cs := #[.int .i64 0, .int .i64 0]) (t := 38) ?hr ?_; (case hd => rfl); (case hg => rfl); (case hr => first | (go_simp; done) | (go_simp; rfl)); intro b90 hb90 w20 Kb90 hb_; have Gb90 := Aside0.mk (by rw [hb90]; exact HB.out.size : W.heap.size ≤ b90); have Nb4_b90 := Aside0.mk (fun e => by have := blk_lt Kb4.out; omega : b4 ≠ b90); replace HB := Aside0.mk (below_step HB.out hb_); clear hb90; replace cb4_0 := pw_cell_below hb_ cb4_0; replace cb4_1 := pw_cell_below hb_ cb4_1; replace cb4_2 := pw_cell_below hb_ cb4_2; replace cb4_3 := pw_cell_below hb_ cb4_3; replace cb4_4 := pw_cell_below hb_ cb4_4; replace cb4_5 := pw_cell_below hb_ cb4_5; replace cb4_6 := pw_cell_below hb_ cb4_6; replace cb4_7 := pw_cell_below hb_ cb4_7; replace cb4_8 := pw_cell_below hb_ cb4_8; replace Kb4 := Aside0.mk ((hb_.block _ (blk_lt Kb4.out)).trans Kb4.out); clear hb_; replace Kb90 := Aside0.mk Kb90)
                | (refine store_agg rfl 38 (.tmp 9) (.tmp 19) rfl rfl b90 #[.int .i64 3, .int .i64 (idx 3 of)] 38 _ rfl rfl Kb90.out size38 rfl (by simp [Value.oneCell']) ?_; intro w30 k_ g_; replace HB := Aside0.mk (HB.out.grown g_ HB.out.size (fun r e => by cases e; exact Gb90.out)); replace Kb4 := Aside0.mk (blk_grown Kb4.out g_ (fun e => by cases e; exact Nb4_b90.out rfl)); clear Kb90; have Kb90 := Aside0.mk k_; clear k_ g_; clear cb4_0; clear cb4_1; clear cb4_2; clear cb4_3; clear cb4_4; clear cb4_5; clear cb4_6; clear cb4_7; clear cb4_8; have cb90_0 := blk_cell Kb90.out 0; have cb90_1 := blk_cell Kb90.out 1; have cb4_0 := blk_cell Kb4.out 0; have cb4_1 := blk_cell Kb4.out 1; have cb4_2 := blk_cell Kb4.out 2; have cb4_3 := blk_cell Kb4.out 3; have cb4_4 := blk_cell Kb4.out 4; have cb4_5 := blk_cell Kb4.out 5; have cb4_6 := blk_cell Kb4.out 6; have cb4_7 := blk_cell Kb4.out 7; have cb4_8 := blk_cell Kb4.out 8; simp only [List.getElem?_toArray, List.getElem?_cons_zero, List.getElem?_cons_succ] at cb90_0 cb90_1 cb4_0 cb4_1 cb4_2 cb4_3 cb4_4 cb4_5 cb4_6 cb4_7 cb4_8)
                | (go_at_call 37; refine (due_calls _ p 3 (idx 3 of) hour HPOK.out HH.out).mono ?_; rintro e w40 ⟨rfl, hb_⟩; replace HB := Aside0.mk (below_step HB.out hb_); replace cb4_0 := pw_cell_below hb_ cb4_0; replace cb4_1 := pw_cell_below hb_ cb4_1; replace cb4_2 := pw_cell_below hb_ cb4_2; replace cb4_3 := pw_cell_below hb_ cb4_3; replace cb4_4 := pw_cell_below hb_ cb4_4; replace cb4_5 := pw_cell_below hb_ cb4_5; replace cb4_6 := pw_cell_below hb_ cb4_6; replace cb4_7 := pw_cell_below hb_ cb4_7; replace cb4_8 := pw_cell_below hb_ cb4_8; replace Kb4 := Aside0.mk ((hb_.block _ (blk_lt Kb4.out)).trans Kb4.out); clear hb_; rw [HD3.out])
                | fail)
          rw [rounds_succ]
          go_wp2_with (first
                | (go_at_call 36; refine (of_calls _ 2 of).mono ?_; rintro e w11 ⟨rfl, hb_⟩; replace HB := Aside0.mk (below_step HB.out hb_); replace cb4_0 := pw_cell_below hb_ cb4_0; replace cb4_1 := pw_cell_below hb_ cb4_1; replace cb4_2 := pw_cell_below hb_ cb4_2; replace cb4_3 := pw_cell_below hb_ cb4_3; replace cb4_4 := pw_cell_below hb_ cb4_4; replace cb4_5 := pw_cell_below hb_ cb4_5; replace cb4_6 := pw_cell_below hb_ cb4_6; replace cb4_7 := pw_cell_below hb_ cb4_7; replace cb4_8 := pw_cell_below hb_ cb4_8; replace Kb4 := Aside0.mk ((hb_.block _ (blk_lt Kb4.out)).trans Kb4.out); clear hb_; rw [HOK2.out, HI2.out, HTT2.out])
                | ((with_reducible refine gate_dst (N := 9) rfl ?_); refine box_event ?hg (N := 9) ?hd (cs := #[.int .i64 0, .int .i64 0]) (t := 38) ?hr ?_; (case hd => rfl); (case hg => rfl); (case hr => first | (go_simp; done) | (go_simp; rfl)); intro b91 hb91 w21 Kb91 hb_; have Gb91 := Aside0.mk (by rw [hb91]; exact HB.out.size : W.heap.size ≤ b91); have Nb4_b91 := Aside0.mk (fun e => by have := blk_lt Kb4.out; omega : b4 ≠ b91); replace HB := Aside0.mk (below_step HB.out hb_); clear hb91; replace cb4_0 := pw_cell_below hb_ cb4_0; replace cb4_1 := pw_cell_below hb_ cb4_1; replace cb4_2 := pw_cell_below hb_ cb4_2; replace cb4_3 := pw_cell_below hb_ cb4_3; replace cb4_4 := pw_cell_below hb_ cb4_4; replace cb4_5 := pw_cell_below hb_ cb4_5; replace cb4_6 := pw_cell_below hb_ cb4_6; replace cb4_7 := pw_cell_below hb_ cb4_7; replace cb4_8 := pw_cell_below hb_ cb4_8; replace Kb4 := Aside0.mk ((hb_.block _ (blk_lt Kb4.out)).trans Kb4.out); clear hb_; replace Kb91 := Aside0.mk Kb91)
                | (refine store_agg rfl 38 (.tmp 9) (.tmp 19) rfl rfl b91 #[.int .i64 2, .int .i64 (idx 2 of)] 38 _ rfl rfl Kb91.out size38 rfl (by simp [Value.oneCell']) ?_; intro w31 k_ g_; replace HB := Aside0.mk (HB.out.grown g_ HB.out.size (fun r e => by cases e; exact Gb91.out)); replace Kb4 := Aside0.mk (blk_grown Kb4.out g_ (fun e => by cases e; exact Nb4_b91.out rfl)); clear Kb91; have Kb91 := Aside0.mk k_; clear k_ g_; clear cb4_0; clear cb4_1; clear cb4_2; clear cb4_3; clear cb4_4; clear cb4_5; clear cb4_6; clear cb4_7; clear cb4_8; have cb91_0 := blk_cell Kb91.out 0; have cb91_1 := blk_cell Kb91.out 1; have cb4_0 := blk_cell Kb4.out 0; have cb4_1 := blk_cell Kb4.out 1; have cb4_2 := blk_cell Kb4.out 2; have cb4_3 := blk_cell Kb4.out 3; have cb4_4 := blk_cell Kb4.out 4; have cb4_5 := blk_cell Kb4.out 5; have cb4_6 := blk_cell Kb4.out 6; have cb4_7 := blk_cell Kb4.out 7; have cb4_8 := blk_cell Kb4.out 8; simp only [List.getElem?_toArray, List.getElem?_cons_zero, List.getElem?_cons_succ] at cb91_0 cb91_1 cb4_0 cb4_1 cb4_2 cb4_3 cb4_4 cb4_5 cb4_6 cb4_7 cb4_8)
                | (go_at_call 37; refine (due_calls _ p 2 (idx 2 of) hour HPOK.out HH.out).mono ?_; rintro e w41 ⟨rfl, hb_⟩; replace HB := Aside0.mk (below_step HB.out hb_); replace cb4_0 := pw_cell_below hb_ cb4_0; replace cb4_1 := pw_cell_below hb_ cb4_1; replace cb4_2 := pw_cell_below hb_ cb4_2; replace cb4_3 := pw_cell_below hb_ cb4_3; replace cb4_4 := pw_cell_below hb_ cb4_4; replace cb4_5 := pw_cell_below hb_ cb4_5; replace cb4_6 := pw_cell_below hb_ cb4_6; replace cb4_7 := pw_cell_below hb_ cb4_7; replace cb4_8 := pw_cell_below hb_ cb4_8; replace Kb4 := Aside0.mk ((hb_.block _ (blk_lt Kb4.out)).trans Kb4.out); clear hb_; rw [HD2.out])
                | fail)
          rw [rounds_succ]
          go_wp2_with (first
                | (go_at_call 36; refine (of_calls _ 1 of).mono ?_; rintro e w12 ⟨rfl, hb_⟩; replace HB := Aside0.mk (below_step HB.out hb_); replace cb4_0 := pw_cell_below hb_ cb4_0; replace cb4_1 := pw_cell_below hb_ cb4_1; replace cb4_2 := pw_cell_below hb_ cb4_2; replace cb4_3 := pw_cell_below hb_ cb4_3; replace cb4_4 := pw_cell_below hb_ cb4_4; replace cb4_5 := pw_cell_below hb_ cb4_5; replace cb4_6 := pw_cell_below hb_ cb4_6; replace cb4_7 := pw_cell_below hb_ cb4_7; replace cb4_8 := pw_cell_below hb_ cb4_8; replace Kb4 := Aside0.mk ((hb_.block _ (blk_lt Kb4.out)).trans Kb4.out); clear hb_; rw [HOK1.out, HI1.out, HTT1.out])
                | ((with_reducible refine gate_dst (N := 9) rfl ?_); refine box_event ?hg (N := 9) ?hd (cs := #[.int .i64 0, .int .i64 0]) (t := 38) ?hr ?_; (case hd => rfl); (case hg => rfl); (case hr => first | (go_simp; done) | (go_simp; rfl)); intro b92 hb92 w22 Kb92 hb_; have Gb92 := Aside0.mk (by rw [hb92]; exact HB.out.size : W.heap.size ≤ b92); have Nb4_b92 := Aside0.mk (fun e => by have := blk_lt Kb4.out; omega : b4 ≠ b92); replace HB := Aside0.mk (below_step HB.out hb_); clear hb92; replace cb4_0 := pw_cell_below hb_ cb4_0; replace cb4_1 := pw_cell_below hb_ cb4_1; replace cb4_2 := pw_cell_below hb_ cb4_2; replace cb4_3 := pw_cell_below hb_ cb4_3; replace cb4_4 := pw_cell_below hb_ cb4_4; replace cb4_5 := pw_cell_below hb_ cb4_5; replace cb4_6 := pw_cell_below hb_ cb4_6; replace cb4_7 := pw_cell_below hb_ cb4_7; replace cb4_8 := pw_cell_below hb_ cb4_8; replace Kb4 := Aside0.mk ((hb_.block _ (blk_lt Kb4.out)).trans Kb4.out); clear hb_; replace Kb92 := Aside0.mk Kb92)
                | (refine store_agg rfl 38 (.tmp 9) (.tmp 19) rfl rfl b92 #[.int .i64 1, .int .i64 (idx 1 of)] 38 _ rfl rfl Kb92.out size38 rfl (by simp [Value.oneCell']) ?_; intro w32 k_ g_; replace HB := Aside0.mk (HB.out.grown g_ HB.out.size (fun r e => by cases e; exact Gb92.out)); replace Kb4 := Aside0.mk (blk_grown Kb4.out g_ (fun e => by cases e; exact Nb4_b92.out rfl)); clear Kb92; have Kb92 := Aside0.mk k_; clear k_ g_; clear cb4_0; clear cb4_1; clear cb4_2; clear cb4_3; clear cb4_4; clear cb4_5; clear cb4_6; clear cb4_7; clear cb4_8; have cb92_0 := blk_cell Kb92.out 0; have cb92_1 := blk_cell Kb92.out 1; have cb4_0 := blk_cell Kb4.out 0; have cb4_1 := blk_cell Kb4.out 1; have cb4_2 := blk_cell Kb4.out 2; have cb4_3 := blk_cell Kb4.out 3; have cb4_4 := blk_cell Kb4.out 4; have cb4_5 := blk_cell Kb4.out 5; have cb4_6 := blk_cell Kb4.out 6; have cb4_7 := blk_cell Kb4.out 7; have cb4_8 := blk_cell Kb4.out 8; simp only [List.getElem?_toArray, List.getElem?_cons_zero, List.getElem?_cons_succ] at cb92_0 cb92_1 cb4_0 cb4_1 cb4_2 cb4_3 cb4_4 cb4_5 cb4_6 cb4_7 cb4_8)
                | (go_at_call 37; refine (due_calls _ p 1 (idx 1 of) hour HPOK.out HH.out).mono ?_; rintro e w42 ⟨rfl, hb_⟩; replace HB := Aside0.mk (below_step HB.out hb_); replace cb4_0 := pw_cell_below hb_ cb4_0; replace cb4_1 := pw_cell_below hb_ cb4_1; replace cb4_2 := pw_cell_below hb_ cb4_2; replace cb4_3 := pw_cell_below hb_ cb4_3; replace cb4_4 := pw_cell_below hb_ cb4_4; replace cb4_5 := pw_cell_below hb_ cb4_5; replace cb4_6 := pw_cell_below hb_ cb4_6; replace cb4_7 := pw_cell_below hb_ cb4_7; replace cb4_8 := pw_cell_below hb_ cb4_8; replace Kb4 := Aside0.mk ((hb_.block _ (blk_lt Kb4.out)).trans Kb4.out); clear hb_; rw [HD1.out])
                | fail)
          rw [rounds_succ]
          go_wp2
          (try simp only [Exit.inBlock, Exit.then, Exit.noGoto])
          go_ret
          exact ⟨by rw [HE.out]; rfl, HB.out⟩
end Go.Proofs.YthhmfeiefbnhcaaGreat.Due
namespace Go.Proofs.YthhmfeiefbnhcaaGreat.Due
open Go.RowKit Go.Proofs.YthhmfeiefbnhcaaGreat.PDueParts Go.Proofs.YthhmfeiefbnhcaaGreatW.PrintWords Go.Proofs.YthhmfeiefbnhcaaGreatW.PrintLast
set_option linter.unusedVariables false
set_option linter.unusedSimpArgs false
set_option maxRecDepth 100000 in
set_option maxHeartbeats 2000000 in
theorem tier_calls (W : World) (cb ob : Nat) (A : Option Addr) (c : Nat) (l : List S183) (Ah : Option Addr) (nh ch : Nat) (p : Pol) (hour floor : Int) (sw : Bool) (x : Int) (hm : CatAt W cb ob A c l) (hr : Rising l) (hsz : l.length < 4611686018427387904) :
    Calls Tryz.prog 38 #[.agg #[.pointer (some ⟨cb, 0, none⟩), .slice Ah nh ch, .int .i64 p.r0, .int .i64 p.r1, .int .i64 p.r2, .int .i64 p.r3, .int .i64 p.r4, .int .i64 p.r5, .int .i64 p.r6, .int .i64 p.r7, .int .i64 p.r8, .int .i64 hour, .int .i64 floor, .bool sw], .int .i64 x] W fun e w' => e = .returned (.int .i64 (atD l x).f0.f0) ∧ Below W.heap.size W w' := by
  have HM := Aside0.mk hm
  have HR := Aside0.mk hr
  have HB := Aside0.mk (Below.refl W.heap.size W)
  clear hm hr
  go_enter Tryz.func38, Tryz.ntmps38
  go_wp2_with (first
      | ((with_reducible refine gate_dst (N := 2) rfl ?_); refine box_event ?hg (N := 2) ?hd (cs := #[.pointer (some ⟨cb, 0, none⟩), .slice Ah nh ch, .int .i64 p.r0, .int .i64 p.r1, .int .i64 p.r2, .int .i64 p.r3, .int .i64 p.r4, .int .i64 p.r5, .int .i64 p.r6, .int .i64 p.r7, .int .i64 p.r8, .int .i64 hour, .int .i64 floor, .bool sw]) (t := 30) ?hr ?_; (case hd => rfl); (case hg => rfl); (case hr => first | (go_simp; done) | (go_simp; rfl)); intro b2 hb2 w1 Kb2 hb_; have Gb2 := Aside0.mk (by rw [hb2]; exact HB.out.size : W.heap.size ≤ b2); replace HB := Aside0.mk (below_step HB.out hb_); clear hb2; clear hb_; have cb2_0 := blk_cell Kb2 0; have cb2_1 := blk_cell Kb2 1; have cb2_2 := blk_cell Kb2 2; have cb2_3 := blk_cell Kb2 3; have cb2_4 := blk_cell Kb2 4; have cb2_5 := blk_cell Kb2 5; have cb2_6 := blk_cell Kb2 6; have cb2_7 := blk_cell Kb2 7; have cb2_8 := blk_cell Kb2 8; have cb2_9 := blk_cell Kb2 9; have cb2_10 := blk_cell Kb2 10; have cb2_11 := blk_cell Kb2 11; have cb2_12 := blk_cell Kb2 12; have cb2_13 := blk_cell Kb2 13; simp only [List.getElem?_toArray, List.getElem?_cons_zero, List.getElem?_cons_succ] at cb2_0 cb2_1 cb2_2 cb2_3 cb2_4 cb2_5 cb2_6 cb2_7 cb2_8 cb2_9 cb2_10 cb2_11 cb2_12 cb2_13; replace Kb2 := Aside0.mk Kb2)
      | (go_at_call 84; refine (at_calls _ cb ob A c l x (HM.out.below HB.out) HR.out hsz).mono ?_; rintro e w2 ⟨rfl, hb_⟩; replace HB := Aside0.mk (below_step HB.out hb_); replace cb2_0 := pw_cell_below hb_ cb2_0; replace cb2_1 := pw_cell_below hb_ cb2_1; replace cb2_2 := pw_cell_below hb_ cb2_2; replace cb2_3 := pw_cell_below hb_ cb2_3; replace cb2_4 := pw_cell_below hb_ cb2_4; replace cb2_5 := pw_cell_below hb_ cb2_5; replace cb2_6 := pw_cell_below hb_ cb2_6; replace cb2_7 := pw_cell_below hb_ cb2_7; replace cb2_8 := pw_cell_below hb_ cb2_8; replace cb2_9 := pw_cell_below hb_ cb2_9; replace cb2_10 := pw_cell_below hb_ cb2_10; replace cb2_11 := pw_cell_below hb_ cb2_11; replace cb2_12 := pw_cell_below hb_ cb2_12; replace cb2_13 := pw_cell_below hb_ cb2_13; clear hb_)
      | ((with_reducible refine gate_dst (N := 5) rfl ?_); refine box_event ?hg (N := 5) ?hd (cs := #[.int .i64 0, .int .i64 0, .int .i64 0, .int .i64 0, .int .i64 0, .bool false]) (t := 43) ?hr ?_; (case hd => rfl); (case hg => rfl); (case hr => first | (go_simp; done) | (go_simp; rfl)); intro b5 hb5 w3 Kb5 hb_; have Gb5 := Aside0.mk (by rw [hb5]; exact HB.out.size : W.heap.size ≤ b5); replace HB := Aside0.mk (below_step HB.out hb_); clear hb5; clear hb_; replace Kb5 := Aside0.mk Kb5)
      | (refine store_agg rfl 43 (.tmp 5) (.tmp 12) rfl rfl b5 #[.int .i64 (atD l x).f0.f0, .int .i64 (atD l x).f0.f1, .int .i64 (atD l x).f1, .int .i64 (atD l x).f2, .int .i64 (atD l x).f3, .bool (atD l x).f4] 43 _ rfl rfl Kb5.out size43 rfl (by simp [Value.oneCell']) ?_; intro w4 k_ g_; replace HB := Aside0.mk (HB.out.grown g_ HB.out.size (fun r e => by cases e; exact Gb5.out)); clear Kb5; have Kb5 := Aside0.mk k_; clear k_ g_; clear cb2_0; clear cb2_1; clear cb2_2; clear cb2_3; clear cb2_4; clear cb2_5; clear cb2_6; clear cb2_7; clear cb2_8; clear cb2_9; clear cb2_10; clear cb2_11; clear cb2_12; clear cb2_13; have cb5_0 := blk_cell Kb5.out 0; have cb5_1 := blk_cell Kb5.out 1; have cb5_2 := blk_cell Kb5.out 2; have cb5_3 := blk_cell Kb5.out 3; have cb5_4 := blk_cell Kb5.out 4; have cb5_5 := blk_cell Kb5.out 5; simp only [List.getElem?_toArray, List.getElem?_cons_zero, List.getElem?_cons_succ] at cb5_0 cb5_1 cb5_2 cb5_3 cb5_4 cb5_5)
      | fail)
  go_ret
  exact ⟨rfl, HB.out⟩
def tgtM (l : List S183) (p : Pol) (hour x : Int) : Int := max (atD l x).f0.f0 (bestP p x hour)
def tgtB (l : List S183) (p : Pol) (hour x : Int) : Bool := if bestP p x hour = 0 then false else okH x && okT (tgtM l p hour x)
def tgtT (l : List S183) (p : Pol) (hour x : Int) : Int := if bestP p x hour = 0 then 0 else ofT (tgtM l p hour x) x
def tgtI (l : List S183) (p : Pol) (hour x : Int) : Int := if bestP p x hour = 0 then 0 else ofI (tgtM l p hour x) x
set_option maxRecDepth 100000 in
set_option maxHeartbeats 2000000 in
theorem target_calls (W : World) (cb ob : Nat) (A : Option Addr) (c : Nat) (l : List S183) (Ah : Option Addr) (nh ch : Nat) (p : Pol) (hour floor : Int) (sw : Bool) (x : Int) (hm : CatAt W cb ob A c l) (hr : Rising l) (hsz : l.length < 4611686018427387904)
    (hok : p.ok) (hh : 0 ≤ hour ∧ hour ≤ 1099511627776) :
    Calls Tryz.prog 12 #[.agg #[.pointer (some ⟨cb, 0, none⟩), .slice Ah nh ch, .int .i64 p.r0, .int .i64 p.r1, .int .i64 p.r2, .int .i64 p.r3, .int .i64 p.r4, .int .i64 p.r5, .int .i64 p.r6, .int .i64 p.r7, .int .i64 p.r8, .int .i64 hour, .int .i64 floor, .bool sw], .int .i64 x] W fun e w' => e = .returned (.tuple #[.agg #[.int .i64 (tgtT l p hour x), .int .i64 (tgtI l p hour x)], .bool (tgtB l p hour x)]) ∧ Below W.heap.size W w' := by
  have HM := Aside0.mk hm
  have HR := Aside0.mk hr
  have HOK := Aside0.mk hok
  have HH := Aside0.mk hh
  have HB := Aside0.mk (Below.refl W.heap.size W)
  clear hm hr hok hh
  by_cases hz : bestP p x hour = 0
  case pos =>
    have HZ := Aside0.mk hz
    clear hz
    go_enter Tryz.func12, Tryz.ntmps12
    go_wp2_with (first
      | ((with_reducible refine gate_dst (N := 2) rfl ?_); refine box_event ?hg (N := 2) ?hd (cs := #[.pointer (some ⟨cb, 0, none⟩), .slice Ah nh ch, .int .i64 p.r0, .int .i64 p.r1, .int .i64 p.r2, .int .i64 p.r3, .int .i64 p.r4, .int .i64 p.r5, .int .i64 p.r6, .int .i64 p.r7, .int .i64 p.r8, .int .i64 hour, .int .i64 floor, .bool sw]) (t := 30) ?hr ?_; (case hd => rfl); (case hg => rfl); (case hr => first | (go_simp; done) | (go_simp; rfl)); intro b2 hb2 w1 Kb2 hb_; have Gb2 := Aside0.mk (by rw [hb2]; exact HB.out.size : W.heap.size ≤ b2); replace HB := Aside0.mk (below_step HB.out hb_); clear hb2; clear hb_; have cb2_0 := blk_cell Kb2 0; have cb2_1 := blk_cell Kb2 1; have cb2_2 := blk_cell Kb2 2; have cb2_3 := blk_cell Kb2 3; have cb2_4 := blk_cell Kb2 4; have cb2_5 := blk_cell Kb2 5; have cb2_6 := blk_cell Kb2 6; have cb2_7 := blk_cell Kb2 7; have cb2_8 := blk_cell Kb2 8; have cb2_9 := blk_cell Kb2 9; have cb2_10 := blk_cell Kb2 10; have cb2_11 := blk_cell Kb2 11; have cb2_12 := blk_cell Kb2 12; have cb2_13 := blk_cell Kb2 13; simp only [List.getElem?_toArray, List.getElem?_cons_zero, List.getElem?_cons_succ] at cb2_0 cb2_1 cb2_2 cb2_3 cb2_4 cb2_5 cb2_6 cb2_7 cb2_8 cb2_9 cb2_10 cb2_11 cb2_12 cb2_13; replace Kb2 := Aside0.mk Kb2)
      | ((with_reducible refine gate_dst (N := 4) rfl ?_); refine box_event ?hg (N := 4) ?hd (cs := #[.int .i64 0, .int .i64 0]) (t := 38) ?hr ?_; (case hd => rfl); (case hg => rfl); (case hr => first | (go_simp; done) | (go_simp; rfl)); intro b4 hb4 w2 Kb4 hb_; have Gb4 := Aside0.mk (by rw [hb4]; exact HB.out.size : W.heap.size ≤ b4); replace HB := Aside0.mk (below_step HB.out hb_); clear hb4; replace cb2_0 := pw_cell_below hb_ cb2_0; replace cb2_1 := pw_cell_below hb_ cb2_1; replace cb2_2 := pw_cell_below hb_ cb2_2; replace cb2_3 := pw_cell_below hb_ cb2_3; replace cb2_4 := pw_cell_below hb_ cb2_4; replace cb2_5 := pw_cell_below hb_ cb2_5; replace cb2_6 := pw_cell_below hb_ cb2_6; replace cb2_7 := pw_cell_below hb_ cb2_7; replace cb2_8 := pw_cell_below hb_ cb2_8; replace cb2_9 := pw_cell_below hb_ cb2_9; replace cb2_10 := pw_cell_below hb_ cb2_10; replace cb2_11 := pw_cell_below hb_ cb2_11; replace cb2_12 := pw_cell_below hb_ cb2_12; replace cb2_13 := pw_cell_below hb_ cb2_13; clear hb_; replace Kb4 := Aside0.mk Kb4)
      | (go_at_call 11; refine (best_calls _ p x hour HOK.out HH.out).mono ?_; rintro e w3 ⟨rfl, hb_⟩; replace HB := Aside0.mk (below_step HB.out hb_); replace cb2_0 := pw_cell_below hb_ cb2_0; replace cb2_1 := pw_cell_below hb_ cb2_1; replace cb2_2 := pw_cell_below hb_ cb2_2; replace cb2_3 := pw_cell_below hb_ cb2_3; replace cb2_4 := pw_cell_below hb_ cb2_4; replace cb2_5 := pw_cell_below hb_ cb2_5; replace cb2_6 := pw_cell_below hb_ cb2_6; replace cb2_7 := pw_cell_below hb_ cb2_7; replace cb2_8 := pw_cell_below hb_ cb2_8; replace cb2_9 := pw_cell_below hb_ cb2_9; replace cb2_10 := pw_cell_below hb_ cb2_10; replace cb2_11 := pw_cell_below hb_ cb2_11; replace cb2_12 := pw_cell_below hb_ cb2_12; replace cb2_13 := pw_cell_below hb_ cb2_13; replace Kb4 := Aside0.mk ((hb_.block _ (blk_lt Kb4.out)).trans Kb4.out); clear hb_; rw [HZ.out])
      | (refine store_agg rfl 38 (.tmp 4) (.tmp 15) rfl rfl b4 #[.int .i64 0, .int .i64 0] 38 _ rfl rfl Kb4.out size38 rfl (by simp [Value.oneCell']) ?_; intro w4 k_ g_; replace HB := Aside0.mk (HB.out.grown g_ HB.out.size (fun r e => by cases e; exact Gb4.out)); clear Kb4; have Kb4 := Aside0.mk k_; clear k_ g_; clear cb2_0; clear cb2_1; clear cb2_2; clear cb2_3; clear cb2_4; clear cb2_5; clear cb2_6; clear cb2_7; clear cb2_8; clear cb2_9; clear cb2_10; clear cb2_11; clear cb2_12; clear cb2_13)
      | (go_at_call 38; refine (tier_calls _ cb ob A c l Ah nh ch p hour floor sw x (HM.out.below HB.out) HR.out hsz).mono ?_; rintro e w5 ⟨rfl, hb_⟩; replace HB := Aside0.mk (below_step HB.out hb_); replace cb2_0 := pw_cell_below hb_ cb2_0; replace cb2_1 := pw_cell_below hb_ cb2_1; replace cb2_2 := pw_cell_below hb_ cb2_2; replace cb2_3 := pw_cell_below hb_ cb2_3; replace cb2_4 := pw_cell_below hb_ cb2_4; replace cb2_5 := pw_cell_below hb_ cb2_5; replace cb2_6 := pw_cell_below hb_ cb2_6; replace cb2_7 := pw_cell_below hb_ cb2_7; replace cb2_8 := pw_cell_below hb_ cb2_8; replace cb2_9 := pw_cell_below hb_ cb2_9; replace cb2_10 := pw_cell_below hb_ cb2_10; replace cb2_11 := pw_cell_below hb_ cb2_11; replace cb2_12 := pw_cell_below hb_ cb2_12; replace cb2_13 := pw_cell_below hb_ cb2_13; replace Kb4 := Aside0.mk ((hb_.block _ (blk_lt Kb4.out)).trans Kb4.out); clear hb_)
      | (go_at_call 36; refine (of_calls _ _ _).mono ?_; rintro e w6 ⟨rfl, hb_⟩; replace HB := Aside0.mk (below_step HB.out hb_); replace cb2_0 := pw_cell_below hb_ cb2_0; replace cb2_1 := pw_cell_below hb_ cb2_1; replace cb2_2 := pw_cell_below hb_ cb2_2; replace cb2_3 := pw_cell_below hb_ cb2_3; replace cb2_4 := pw_cell_below hb_ cb2_4; replace cb2_5 := pw_cell_below hb_ cb2_5; replace cb2_6 := pw_cell_below hb_ cb2_6; replace cb2_7 := pw_cell_below hb_ cb2_7; replace cb2_8 := pw_cell_below hb_ cb2_8; replace cb2_9 := pw_cell_below hb_ cb2_9; replace cb2_10 := pw_cell_below hb_ cb2_10; replace cb2_11 := pw_cell_below hb_ cb2_11; replace cb2_12 := pw_cell_below hb_ cb2_12; replace cb2_13 := pw_cell_below hb_ cb2_13; replace Kb4 := Aside0.mk ((hb_.block _ (blk_lt Kb4.out)).trans Kb4.out); clear hb_)
      | (refine store_agg rfl 38 (.tmp 4) (.tmp 23) rfl rfl b4 #[.int .i64 (ofT (max (atD l x).f0.f0 (bestP p x hour)) x), .int .i64 (ofI (max (atD l x).f0.f0 (bestP p x hour)) x)] 38 _ rfl rfl Kb4.out size38 rfl (by simp [Value.oneCell']) ?_; intro w7 k_ g_; replace HB := Aside0.mk (HB.out.grown g_ HB.out.size (fun r e => by cases e; exact Gb4.out)); clear Kb4; have Kb4 := Aside0.mk k_; clear k_ g_; clear cb2_0; clear cb2_1; clear cb2_2; clear cb2_3; clear cb2_4; clear cb2_5; clear cb2_6; clear cb2_7; clear cb2_8; clear cb2_9; clear cb2_10; clear cb2_11; clear cb2_12; clear cb2_13)
      | fail)
    (try simp only [Exit.inBlock, Exit.then])
    refine bodyPost_ret (results_ct rfl _ _ b4 38 _ (0, 0) _ rfl Kb4.out Tryz.underlying38 rfl size38) rfl ?_
    exact ⟨by rw [tgtT, tgtI, tgtB, if_pos HZ.out, if_pos HZ.out, if_pos HZ.out]; rfl, HB.out⟩
  case neg =>
    have HZ := Aside0.mk hz
    go_enter Tryz.func12, Tryz.ntmps12
    go_wp2_with (first
      | ((with_reducible refine gate_dst (N := 2) rfl ?_); refine box_event ?hg (N := 2) ?hd (cs := #[.pointer (some ⟨cb, 0, none⟩), .slice Ah nh ch, .int .i64 p.r0, .int .i64 p.r1, .int .i64 p.r2, .int .i64 p.r3, .int .i64 p.r4, .int .i64 p.r5, .int .i64 p.r6, .int .i64 p.r7, .int .i64 p.r8, .int .i64 hour, .int .i64 floor, .bool sw]) (t := 30) ?hr ?_; (case hd => rfl); (case hg => rfl); (case hr => first | (go_simp; done) | (go_simp; rfl)); intro b2 hb2 w1 Kb2 hb_; have Gb2 := Aside0.mk (by rw [hb2]; exact HB.out.size : W.heap.size ≤ b2); replace HB := Aside0.mk (below_step HB.out hb_); clear hb2; clear hb_; have cb2_0 := blk_cell Kb2 0; have cb2_1 := blk_cell Kb2 1; have cb2_2 := blk_cell Kb2 2; have cb2_3 := blk_cell Kb2 3; have cb2_4 := blk_cell Kb2 4; have cb2_5 := blk_cell Kb2 5; have cb2_6 := blk_cell Kb2 6; have cb2_7 := blk_cell Kb2 7; have cb2_8 := blk_cell Kb2 8; have cb2_9 := blk_cell Kb2 9; have cb2_10 := blk_cell Kb2 10; have cb2_11 := blk_cell Kb2 11; have cb2_12 := blk_cell Kb2 12; have cb2_13 := blk_cell Kb2 13; simp only [List.getElem?_toArray, List.getElem?_cons_zero, List.getElem?_cons_succ] at cb2_0 cb2_1 cb2_2 cb2_3 cb2_4 cb2_5 cb2_6 cb2_7 cb2_8 cb2_9 cb2_10 cb2_11 cb2_12 cb2_13; replace Kb2 := Aside0.mk Kb2)
      | ((with_reducible refine gate_dst (N := 4) rfl ?_); refine box_event ?hg (N := 4) ?hd (cs := #[.int .i64 0, .int .i64 0]) (t := 38) ?hr ?_; (case hd => rfl); (case hg => rfl); (case hr => first | (go_simp; done) | (go_simp; rfl)); intro b4 hb4 w2 Kb4 hb_; have Gb4 := Aside0.mk (by rw [hb4]; exact HB.out.size : W.heap.size ≤ b4); replace HB := Aside0.mk (below_step HB.out hb_); clear hb4; replace cb2_0 := pw_cell_below hb_ cb2_0; replace cb2_1 := pw_cell_below hb_ cb2_1; replace cb2_2 := pw_cell_below hb_ cb2_2; replace cb2_3 := pw_cell_below hb_ cb2_3; replace cb2_4 := pw_cell_below hb_ cb2_4; replace cb2_5 := pw_cell_below hb_ cb2_5; replace cb2_6 := pw_cell_below hb_ cb2_6; replace cb2_7 := pw_cell_below hb_ cb2_7; replace cb2_8 := pw_cell_below hb_ cb2_8; replace cb2_9 := pw_cell_below hb_ cb2_9; replace cb2_10 := pw_cell_below hb_ cb2_10; replace cb2_11 := pw_cell_below hb_ cb2_11; replace cb2_12 := pw_cell_below hb_ cb2_12; replace cb2_13 := pw_cell_below hb_ cb2_13; clear hb_; replace Kb4 := Aside0.mk Kb4)
      | (go_at_call 11; refine (best_calls _ p x hour HOK.out HH.out).mono ?_; rintro e w3 ⟨rfl, hb_⟩; replace HB := Aside0.mk (below_step HB.out hb_); replace cb2_0 := pw_cell_below hb_ cb2_0; replace cb2_1 := pw_cell_below hb_ cb2_1; replace cb2_2 := pw_cell_below hb_ cb2_2; replace cb2_3 := pw_cell_below hb_ cb2_3; replace cb2_4 := pw_cell_below hb_ cb2_4; replace cb2_5 := pw_cell_below hb_ cb2_5; replace cb2_6 := pw_cell_below hb_ cb2_6; replace cb2_7 := pw_cell_below hb_ cb2_7; replace cb2_8 := pw_cell_below hb_ cb2_8; replace cb2_9 := pw_cell_below hb_ cb2_9; replace cb2_10 := pw_cell_below hb_ cb2_10; replace cb2_11 := pw_cell_below hb_ cb2_11; replace cb2_12 := pw_cell_below hb_ cb2_12; replace cb2_13 := pw_cell_below hb_ cb2_13; replace Kb4 := Aside0.mk ((hb_.block _ (blk_lt Kb4.out)).trans Kb4.out); clear hb_)
      | (refine store_agg rfl 38 (.tmp 4) (.tmp 15) rfl rfl b4 #[.int .i64 0, .int .i64 0] 38 _ rfl rfl Kb4.out size38 rfl (by simp [Value.oneCell']) ?_; intro w4 k_ g_; replace HB := Aside0.mk (HB.out.grown g_ HB.out.size (fun r e => by cases e; exact Gb4.out)); clear Kb4; have Kb4 := Aside0.mk k_; clear k_ g_; clear cb2_0; clear cb2_1; clear cb2_2; clear cb2_3; clear cb2_4; clear cb2_5; clear cb2_6; clear cb2_7; clear cb2_8; clear cb2_9; clear cb2_10; clear cb2_11; clear cb2_12; clear cb2_13)
      | (go_at_call 38; refine (tier_calls _ cb ob A c l Ah nh ch p hour floor sw x (HM.out.below HB.out) HR.out hsz).mono ?_; rintro e w5 ⟨rfl, hb_⟩; replace HB := Aside0.mk (below_step HB.out hb_); replace cb2_0 := pw_cell_below hb_ cb2_0; replace cb2_1 := pw_cell_below hb_ cb2_1; replace cb2_2 := pw_cell_below hb_ cb2_2; replace cb2_3 := pw_cell_below hb_ cb2_3; replace cb2_4 := pw_cell_below hb_ cb2_4; replace cb2_5 := pw_cell_below hb_ cb2_5; replace cb2_6 := pw_cell_below hb_ cb2_6; replace cb2_7 := pw_cell_below hb_ cb2_7; replace cb2_8 := pw_cell_below hb_ cb2_8; replace cb2_9 := pw_cell_below hb_ cb2_9; replace cb2_10 := pw_cell_below hb_ cb2_10; replace cb2_11 := pw_cell_below hb_ cb2_11; replace cb2_12 := pw_cell_below hb_ cb2_12; replace cb2_13 := pw_cell_below hb_ cb2_13; replace Kb4 := Aside0.mk ((hb_.block _ (blk_lt Kb4.out)).trans Kb4.out); clear hb_)
      | (go_at_call 36; refine (of_calls _ _ _).mono ?_; rintro e w6 ⟨rfl, hb_⟩; replace HB := Aside0.mk (below_step HB.out hb_); replace cb2_0 := pw_cell_below hb_ cb2_0; replace cb2_1 := pw_cell_below hb_ cb2_1; replace cb2_2 := pw_cell_below hb_ cb2_2; replace cb2_3 := pw_cell_below hb_ cb2_3; replace cb2_4 := pw_cell_below hb_ cb2_4; replace cb2_5 := pw_cell_below hb_ cb2_5; replace cb2_6 := pw_cell_below hb_ cb2_6; replace cb2_7 := pw_cell_below hb_ cb2_7; replace cb2_8 := pw_cell_below hb_ cb2_8; replace cb2_9 := pw_cell_below hb_ cb2_9; replace cb2_10 := pw_cell_below hb_ cb2_10; replace cb2_11 := pw_cell_below hb_ cb2_11; replace cb2_12 := pw_cell_below hb_ cb2_12; replace cb2_13 := pw_cell_below hb_ cb2_13; replace Kb4 := Aside0.mk ((hb_.block _ (blk_lt Kb4.out)).trans Kb4.out); clear hb_)
      | (refine store_agg rfl 38 (.tmp 4) (.tmp 23) rfl rfl b4 #[.int .i64 (ofT (max (atD l x).f0.f0 (bestP p x hour)) x), .int .i64 (ofI (max (atD l x).f0.f0 (bestP p x hour)) x)] 38 _ rfl rfl Kb4.out size38 rfl (by simp [Value.oneCell']) ?_; intro w7 k_ g_; replace HB := Aside0.mk (HB.out.grown g_ HB.out.size (fun r e => by cases e; exact Gb4.out)); clear Kb4; have Kb4 := Aside0.mk k_; clear k_ g_; clear cb2_0; clear cb2_1; clear cb2_2; clear cb2_3; clear cb2_4; clear cb2_5; clear cb2_6; clear cb2_7; clear cb2_8; clear cb2_9; clear cb2_10; clear cb2_11; clear cb2_12; clear cb2_13)
      | fail)
    (try simp only [Exit.inBlock, Exit.then])
    refine bodyPost_ret (results_ct rfl _ _ b4 38 _ (0, 0) _ rfl Kb4.out Tryz.underlying38 rfl size38) rfl ?_
    exact ⟨by rw [tgtT, tgtI, tgtB, if_neg HZ.out, if_neg HZ.out, if_neg HZ.out]; rfl, HB.out⟩
end Go.Proofs.YthhmfeiefbnhcaaGreat.Due
namespace Go.Proofs.YthhmfeiefbnhcaaGreat.Due
open Go.RowKit Go.Maps Go.Proofs.YthhmfeiefbnhcaaGreatW.PrintWords
set_option linter.unusedVariables false
set_option linter.unusedSimpArgs false
structure Job where
  k : Int
  t : Int
  i : Int
deriving DecidableEq
def in64 (x : Int) : Prop := -9223372036854775808 ≤ x ∧ x ≤ 9223372036854775807
def Job.wf (j : Job) : Prop := in64 j.k ∧ in64 j.t ∧ in64 j.i
def Job.val (j : Job) : Value := .agg #[.int .i64 j.k, .int .i64 j.t, .int .i64 j.i]
def Job.lit (j : Job) : Lit := .string (keyBytes [.int .i64 j.k, .int .i64 j.t, .int .i64 j.i])
theorem laid_out : laidOutB Tryz.prog = true := by kernel_rfl
theorem row84 : (84 : TypeId) < Tryz.prog.types.size := of_decide_eq_true (by kernel_rfl)
theorem kta84 : Tryz.prog.keyTypeAt 3 84 = true := by kernel_rfl
theorem law84 : Keyed Tryz.prog 84 := Keyed.of_law (deep_law_laid laid_out (m := 3) (by omega) row84 kta84 (by rw [Tryz.underlying84]))
theorem keyType84 : Tryz.prog.keyType 84 = true := by kernel_rfl
theorem cells84 : Tryz.prog.cellsOf 84 = 3 := by kernel_rfl
theorem cells38 : Tryz.prog.cellsOf 38 = 2 := by kernel_rfl
theorem cells2 : Tryz.prog.cellsOf 2 = 1 := by kernel_rfl
theorem cells3 : Tryz.prog.cellsOf 3 = 1 := by kernel_rfl
theorem wf64 {x : Int} (h : in64 x) : (Lit.int .i64 x).wf = true := WalkArith.wf_i64 h
theorem wf64_inv {x : Int} (h : (Lit.int .i64 x).wf = true) : in64 x := by
  unfold in64
  simp [Lit.wf, IntKind.min, IntKind.max, IntKind.signed, IntKind.bits] at h
  omega
theorem int_inv {t : TypeId} (ht : Tryz.prog.underlying t = some (.int .i64)) (d : Nat) (cs : List Value) (ls : List Lit) (h : Tryz.prog.keyLits (d + 1) t cs = some ls) : ∃ x, in64 x ∧ cs = [.int .i64 x] ∧ ls = [.int .i64 x] := by
  unfold Program.keyLits at h
  rw [ht] at h
  rcases cs with _ | ⟨c, _ | ⟨c2, cs⟩⟩
  · cases h
  · cases c <;> try (cases h; done)
    rename_i q n
    by_cases hc : q = .i64 ∧ (Lit.int .i64 n).wf = true
    · obtain ⟨rfl, hw⟩ := hc
      have h' : (if IntKind.i64 = IntKind.i64 ∧ (Lit.int .i64 n).wf = true then some [Lit.int .i64 n] else none) = some ls := h
      rw [if_pos ⟨rfl, hw⟩] at h'
      cases h'
      exact ⟨_, wf64_inv hw, rfl, rfl⟩
    · have h' : (if q = IntKind.i64 ∧ (Lit.int .i64 n).wf = true then some [Lit.int .i64 n] else none) = some ls := h
      rw [if_neg hc] at h'
      cases h'
  · simp at h
theorem int_mk {t : TypeId} (ht : Tryz.prog.underlying t = some (.int .i64)) (d : Nat) (x : Int) (hx : in64 x) : Tryz.prog.keyLits (d + 1) t [.int .i64 x] = some [.int .i64 x] := by
  unfold Program.keyLits
  rw [ht]
  simp [wf64 hx]
theorem part_mk (d : Nat) (x y : Int) (hx : in64 x) (hy : in64 y) : Tryz.prog.keyLits (d + 2) 38 [.int .i64 x, .int .i64 y] = some [.int .i64 x, .int .i64 y] := by
  unfold Program.keyLits
  rw [Tryz.underlying38]
  simp [cells38, cells2, cells3, int_mk Tryz.underlying3 d x hx, int_mk Tryz.underlying2 d y hy]
theorem job_mk (d : Nat) (j : Job) (h : j.wf) : Tryz.prog.keyLits (d + 3) 84 j.val.cells.toList = some [.int .i64 j.k, .int .i64 j.t, .int .i64 j.i] := by
  unfold Program.keyLits
  rw [Tryz.underlying84]
  simp [Job.val, Value.cells, cells84, cells38, cells3, int_mk Tryz.underlying3 (d + 1) j.k h.1, part_mk d j.t j.i h.2.1 h.2.2]
set_option maxRecDepth 100000 in
theorem part_inv (d : Nat) (cs : List Value) (ls : List Lit) (h : Tryz.prog.keyLits (d + 2) 38 cs = some ls) : ∃ x y, in64 x ∧ in64 y ∧ cs = [.int .i64 x, .int .i64 y] ∧ ls = [.int .i64 x, .int .i64 y] := by
  unfold Program.keyLits at h
  simp only [Tryz.underlying38] at h
  have hlen : cs.length = 2 := by
    apply Classical.byContradiction
    intro hne
    simp [cells38, hne] at h
  match cs, hlen, h with
  | [a, b], _, h =>
    simp [cells38, cells2, cells3] at h
    cases e1 : Tryz.prog.keyLits (d + 1) 3 [a] with
    | none => simp [e1] at h
    | some l1 =>
      cases e2 : Tryz.prog.keyLits (d + 1) 2 [b] with
      | none => simp [e1, e2] at h
      | some l2 =>
        simp [e1, e2] at h
        obtain ⟨x, hx, hax, rfl⟩ := int_inv Tryz.underlying3 d _ _ e1
        obtain ⟨y, hy, hby, rfl⟩ := int_inv Tryz.underlying2 d _ _ e2
        cases hax
        cases hby
        subst h
        exact ⟨x, y, hx, hy, rfl, rfl⟩
set_option maxRecDepth 100000 in
theorem job_inv (d : Nat) (cs : List Value) (ls : List Lit) (h : Tryz.prog.keyLits (d + 3) 84 cs = some ls) : ∃ j : Job, j.wf ∧ cs = j.val.cells.toList ∧ ls = [.int .i64 j.k, .int .i64 j.t, .int .i64 j.i] := by
  unfold Program.keyLits at h
  simp only [Tryz.underlying84] at h
  have hlen : cs.length = 3 := by
    apply Classical.byContradiction
    intro hne
    simp [cells84, hne] at h
  match cs, hlen, h with
  | [a, b, c], _, h =>
    simp [cells84, cells38, cells3] at h
    cases e1 : Tryz.prog.keyLits (d + 2) 3 [a] with
    | none => simp [e1] at h
    | some l1 =>
      cases e2 : Tryz.prog.keyLits (d + 2) 38 [b, c] with
      | none => simp [e1, e2] at h
      | some l2 =>
        simp [e1, e2] at h
        obtain ⟨x, hx, hax, rfl⟩ := int_inv Tryz.underlying3 (d + 1) _ _ e1
        obtain ⟨y, z, hy, hz, hbc, rfl⟩ := part_inv d _ _ e2
        cases hax
        cases hbc
        subst h
        exact ⟨⟨x, y, z⟩, ⟨hx, hy, hz⟩, rfl, rfl⟩
theorem keyOf_job (j : Job) (h : j.wf) : keyOf Tryz.prog 84 j.val = some j.lit := by
  obtain ⟨d, hd⟩ : ∃ d, Tryz.prog.types.size + 1 = d + 3 := ⟨Tryz.prog.types.size - 2, by have h84 : (84 : Nat) < Tryz.prog.types.size := row84; omega⟩
  unfold keyOf
  rw [Tryz.underlying84]
  simp only [keyType84]
  rw [hd, job_mk d j h]
  simp [Job.val, Value.formed, Tryz.underlying84, cells84, Job.lit]
set_option maxRecDepth 100000 in
theorem keyOf_inv {v : Value} {kl : Lit} (h : keyOf Tryz.prog 84 v = some kl) : ∃ j : Job, j.wf ∧ v = j.val ∧ kl = j.lit := by
  obtain ⟨d, hd⟩ : ∃ d, Tryz.prog.types.size + 1 = d + 3 := ⟨Tryz.prog.types.size - 2, by have h84 : (84 : Nat) < Tryz.prog.types.size := row84; omega⟩
  unfold keyOf at h
  rw [Tryz.underlying84] at h
  simp only [keyType84, hd] at h
  cases hf : v.formed Tryz.prog 84 with
  | false => simp [hf] at h
  | true =>
    simp only [hf, Bool.and_self, if_true] at h
    obtain ⟨ls, h1, rfl⟩ := Option.map_eq_some_iff.1 h
    obtain ⟨j, hj, hc, rfl⟩ := job_inv d _ _ h1
    refine ⟨j, hj, ?_, rfl⟩
    unfold Value.formed at hf
    rw [Tryz.underlying84] at hf
    cases v <;> simp at hf
    simp only [Value.cells, Job.val] at hc ⊢
    rw [Value.agg.injEq]
    exact Array.toList_inj.1 hc
theorem Job.lit_inj {a b : Job} (ha : a.wf) (hb : b.wf) (h : a.lit = b.lit) : a = b := by
  have := law84.inj (keyOf_job a ha) (by rw [h]; exact keyOf_job b hb)
  simp only [Job.val, Value.agg.injEq] at this
  obtain ⟨a1, a2, a3⟩ := a
  obtain ⟨b1, b2, b3⟩ := b
  simpa using this
theorem Job.isKey {a : Job} (ha : a.wf) : WideAt.IsKeyLit a.lit := law84.key (keyOf_job a ha)
theorem Job.same {a b : Job} (ha : a.wf) (hb : b.wf) : a.lit.sameKey b.lit = decide (a = b) := by
  by_cases h : a = b
  · subst h; rw [decide_eq_true rfl]; exact WideAt.sameKey_self (Job.isKey ha)
  · rw [decide_eq_false h]; exact sameKey_ne (fun e => h (Job.lit_inj ha hb e))
structure JobsAt (w : World) (b n : Nat) (M : Job → Prop) : Prop where
  own : ∃ D : DataW Unit, w.ownsMap Tryz.prog 84 (plainElem Tryz.prog 2) b n D ∧ ∀ j : Job, j.wf → (Maps.has D j.lit = true ↔ M j)
theorem JobsAt.lt {w : World} {b n : Nat} {M : Job → Prop} (h : JobsAt w b n M) : b < w.heap.size := by
  obtain ⟨D, h1, _⟩ := h.own
  exact h1.lt
theorem JobsAt.kept {w w' : World} {b n : Nat} {M : Job → Prop} {row : Option Nat} (h : JobsAt w b n M) (hg : w.grownBy w' row) (hne : some b ≠ row) : JobsAt w' b n M := by
  obtain ⟨D, h1, h2⟩ := h.own
  exact ⟨D, h1.kept hg hne, h2⟩
theorem JobsAt.below {w w' : World} {b n : Nat} {M : Job → Prop} (h : JobsAt w b n M) (hb : Below w.heap.size w w') : JobsAt w' b n M := h.kept (grown_of_below hb none) (by simp)
theorem JobsAt.weaken {w : World} {b n n' : Nat} {M M' : Job → Prop} (h : JobsAt w b n M) (hn : n ≤ n') (hM : ∀ z, M' z ↔ M z) : JobsAt w b n' M' := by
  obtain ⟨D, h1, h2⟩ := h.own
  exact ⟨D, h1.mono hn, fun j hj => (h2 j hj).trans (hM j).symm⟩
theorem JobsAt.made (w : World) : JobsAt (w.alloc (.map #[] 0)) w.heap.size 0 (fun _ => False) :=
  ⟨.map [], World.ownsMap_made w _ _ _, fun j _ => by simp [Maps.has]⟩
theorem JobsAt.put {w : World} {b n : Nat} {M : Job → Prop} (h : JobsAt w b n M) (hn : n < maxLen) (j : Job) (hj : j.wf) (x : Int) (hx : in64 x) :
    ∃ w', (Instr.mapUpdate 79 (.map (some b)) j.val (.int .i64 x)).run Tryz.prog w = .ok () w' ∧ JobsAt w' b (n + 1) (fun z => z = j ∨ M z) ∧ w.grownBy w' (some b) := by
  obtain ⟨D, h1, h2⟩ := h.own
  obtain ⟨w', hr, ho, hg⟩ := h1.update law84 Tryz.underlying79 hn (keyOf_job j hj) (plainElem_int Tryz.underlying2 (wf64 hx))
  refine ⟨w', hr, ⟨_, ho, fun z hz => ?_⟩, hg⟩
  by_cases e : z = j
  · subst e
    rw [has_put_same (h1.tidy law84).isMap (Job.isKey hz)]
    simp
  · rw [has_put_other (fun e2 => e (Job.lit_inj hz hj e2)), h2 z hz]
    simp [e]
end Go.Proofs.YthhmfeiefbnhcaaGreat.Due
namespace Go.Proofs.YthhmfeiefbnhcaaGreat.Due
open Go.RowKit Go.Proofs.YthhmfeiefbnhcaaGreat.PDueParts Go.Proofs.YthhmfeiefbnhcaaGreatW.PrintWords Go.Proofs.YthhmfeiefbnhcaaGreatW.PrintLast
set_option linter.unusedVariables false
set_option linter.unusedSimpArgs false
theorem from_in (t i : Int) : in64 (fromP t i) := by
  unfold fromP in64
  split
  · have := lo_bd (by assumption); omega
  · omega
set_option maxRecDepth 100000 in
set_option maxHeartbeats 2000000 in
theorem gput_calls (W : World) (gb cb : Nat) (Ah : Option Addr) (nh ch : Nat) (p : Pol) (hour floor : Int) (sw : Bool) (mb n : Nat) (M : Job → Prop) (k t i : Int)
    (hg : W.heap[gb]? = some (.cells #[.pointer (some ⟨cb, 0, none⟩), .slice Ah nh ch, .int .i64 p.r0, .int .i64 p.r1, .int .i64 p.r2, .int .i64 p.r3, .int .i64 p.r4, .int .i64 p.r5, .int .i64 p.r6, .int .i64 p.r7, .int .i64 p.r8, .int .i64 hour, .int .i64 floor, .bool sw, .map (some mb)] 144 (0, 0))) (hM : JobsAt W mb n M) (hn : n < maxLen) (hj : (Job.mk k t i).wf) :
    Calls Tryz.prog 73 #[.pointer (some ⟨gb, 0, none⟩), .int .i64 k, .agg #[.int .i64 t, .int .i64 i]] W fun e w' =>
      (∃ v, e = .returned v) ∧ JobsAt w' mb (n + 1) (fun z => z = ⟨k, t, i⟩ ∨ M z) ∧ W.grownBy w' (some mb) := by
  have HM := Aside0.mk hM
  have HN := Aside0.mk hn
  have HJ := Aside0.mk hj
  have pg : W.cell? ⟨gb, 14, none⟩ = some (.map (some mb)) := (blk_cell hg 14).trans rfl
  have HB := Aside0.mk (Below.refl W.heap.size W)
  clear hM hn hj hg
  go_enter Tryz.func73, Tryz.ntmps73
  go_upto_region 2 with (first
      | ((with_reducible refine gate_dst (N := 5) rfl ?_); refine box_event ?hg (N := 5) ?hd (cs := #[.int .i64 t, .int .i64 i]) (t := 38) ?hr ?_; (case hd => rfl); (case hg => rfl); (case hr => first | (go_simp; done) | (go_simp; rfl)); intro b5 hb5 w1 Kb5 hb_; have Gb5 := Aside0.mk (by rw [hb5]; exact HB.out.size : W.heap.size ≤ b5); replace HB := Aside0.mk (below_step HB.out hb_); clear hb5; replace pg := pw_cell_below hb_ pg; clear hb_; have cb5_0 := blk_cell Kb5 0; have cb5_1 := blk_cell Kb5 1; simp only [List.getElem?_toArray, List.getElem?_cons_zero, List.getElem?_cons_succ] at cb5_0 cb5_1; replace Kb5 := Aside0.mk Kb5)
      | (go_at_call 39; refine (span_calls _ _ _).mono ?_; rintro e w2 ⟨rfl, hb_⟩; replace HB := Aside0.mk (below_step HB.out hb_); replace pg := pw_cell_below hb_ pg; replace cb5_0 := pw_cell_below hb_ cb5_0; replace cb5_1 := pw_cell_below hb_ cb5_1; clear hb_)
      | fail)
  refine start_ (n := 9) (S := fun w' => w'.cell? ⟨gb, 14, none⟩ = some (.map (some mb)) ∧ w'.cell? ⟨b5, 0, none⟩ = some (.int .i64 t) ∧ w'.cell? ⟨b5, 1, none⟩ = some (.int .i64 i)) (ds := [8]) #[false, false, false, false, false, false, false, false, false] (by kernel_rfl) rfl rfl ⟨pg, cb5_0, cb5_1⟩ ?_
  intro hHeld
  replace HB := Aside0.mk HB.out.drew
  clear pg cb5_0 cb5_1
  generalize w2.drew = w3 at *
  refine pure_ (i := 0) (N := some 13) (v := ?_) (a' := ?_) #[true, false, false, false, false, false, false, false, false] rfl rfl (by kernel_rfl) (fun _ _ _ h => h) (Or.inl ⟨by rfl, ?_⟩) ?_ ?_
  rotate_left
  · intro w'
    go_simp
    with_reducible rfl
  rotate_left
  · simp only [Act.put, List.setIfInBounds_toArray, List.set_cons_zero, List.set_cons_succ, i64_w, i32_w]
    rfl
  refine pure_ (i := 1) (N := some 14) (v := ?_) (a' := ?_) #[true, true, false, false, false, false, false, false, false] rfl rfl (by kernel_rfl) (fun _ _ _ h => h) (Or.inl ⟨by rfl, ?_⟩) ?_ ?_
  rotate_left
  · intro w'
    go_simp
    with_reducible rfl
  rotate_left
  · simp only [Act.put, List.setIfInBounds_toArray, List.set_cons_zero, List.set_cons_succ, i64_w, i32_w]
    rfl
  refine pure_ (i := 2) (N := some 15) (v := ?_) (a' := ?_) #[true, true, true, false, false, false, false, false, false] rfl rfl (by kernel_rfl) (fun _ _ _ h => h) (Or.inl ⟨by rfl, ?_⟩) ?_ ?_
  rotate_left
  · intro w'
    go_simp
    with_reducible rfl
  rotate_left
  · simp only [Act.put, List.setIfInBounds_toArray, List.set_cons_zero, List.set_cons_succ, i64_w, i32_w]
    rfl
  refine take_ (i := 3) (N := some 16) (v := ?_) (a' := ?_) #[true, true, true, true, false, false, false, false, false] rfl rfl (by kernel_rfl) (fun _ _ _ h => h) (Or.inl ⟨by rfl, ?_⟩) hHeld ?_ ?_
  rotate_left
  · rintro w' ⟨s0, s1, s2⟩
    go_simp
    with_reducible rfl
  rotate_left
  · simp only [Act.put, List.setIfInBounds_toArray, List.set_cons_zero, List.set_cons_succ, i64_w, i32_w]
    rfl
  refine pure_ (i := 4) (N := some 17) (v := ?_) (a' := ?_) #[true, true, true, true, true, false, false, false, false] rfl rfl (by kernel_rfl) (fun _ _ _ h => h) (Or.inl ⟨by rfl, ?_⟩) ?_ ?_
  rotate_left
  · intro w'
    go_simp
    with_reducible rfl
  rotate_left
  · simp only [Act.put, List.setIfInBounds_toArray, List.set_cons_zero, List.set_cons_succ, i64_w, i32_w]
    rfl
  refine take_ (i := 5) (N := some 18) (v := ?_) (a' := ?_) #[true, true, true, true, true, true, false, false, false] rfl rfl (by kernel_rfl) (fun _ _ _ h => h) (Or.inl ⟨by rfl, ?_⟩) hHeld ?_ ?_
  rotate_left
  · rintro w' ⟨s0, s1, s2⟩
    go_simp
    with_reducible rfl
  rotate_left
  · simp only [Act.put, List.setIfInBounds_toArray, List.set_cons_zero, List.set_cons_succ, i64_w, i32_w]
    rfl
  refine pure_ (i := 6) (N := some 19) (v := ?_) (a' := ?_) #[true, true, true, true, true, true, true, false, false] rfl rfl (by kernel_rfl) (fun _ _ _ h => h) (Or.inl ⟨by rfl, ?_⟩) ?_ ?_
  rotate_left
  · intro w'
    go_simp
    with_reducible rfl
  rotate_left
  · simp only [Act.put, List.setIfInBounds_toArray, List.set_cons_zero, List.set_cons_succ, i64_w, i32_w]
    rfl
  refine pure_ (i := 7) (N := some 20) (v := ?_) (a' := ?_) #[true, true, true, true, true, true, true, true, false] rfl rfl (by kernel_rfl) (fun _ _ _ h => h) (Or.inl ⟨by rfl, ?_⟩) ?_ ?_
  rotate_left
  · intro w'
    go_simp
    with_reducible rfl
  rotate_left
  · simp only [Act.put, List.setIfInBounds_toArray, List.set_cons_zero, List.set_cons_succ, i64_w, i32_w]
    rfl
  refine last_ (i := 8) (N := none) #[true, true, true, true, true, true, true, true, true] rfl rfl (by kernel_rfl) (by decide) (fun K hK => ?_)
  obtain ⟨w4, hr4, hM4, hg4⟩ := (HM.out.below HB.out).put HN.out ⟨k, t, i⟩ HJ.out (fromP t i) (from_in t i)
  simp only [Job.val] at hr4
  have H4 := Aside0.mk hM4
  have G4 := Aside0.mk hg4
  clear hM4 hg4 hHeld
  refine skip_step (w1 := w4) (by rfl) (by go_simp) ?_
  refine hK.out _ _ ?_
  refine done_ (by kernel_rfl) ?_
  clear hr4
  go_wp2
  first | go_end0 | ((try simp only [Exit.inBlock, Exit.then]); refine bodyPost_ret (results_none rfl _ _ _) rfl ?_)
  exact ⟨⟨_, rfl⟩, H4.out, (grown_of_below HB.out (some mb)).trans G4.out⟩
end Go.Proofs.YthhmfeiefbnhcaaGreat.Due
namespace Go.Proofs.YthhmfeiefbnhcaaGreat.Due
open Go.RowKit Go.Proofs.YthhmfeiefbnhcaaGreat.PDueParts Go.Proofs.YthhmfeiefbnhcaaGreatW.PrintWords Go.Proofs.YthhmfeiefbnhcaaGreatW.PrintLast
set_option linter.unusedVariables false
set_option linter.unusedSimpArgs false
theorem mst_ge (m : Int) (h : 0 ≤ m) : 28 * m ≤ mst m := by
  by_cases h0 : m = 0
  · subst h0; rw [mst_zero]; omega
  · have := mst_lt 0 (Int.le_refl 0) m.toNat
    rw [mst_zero] at this
    have e : ((0 : Int) + (m.toNat : Int)) = m := by omega
    rw [e] at this
    omega
theorem idx_in {t x : Int} (h : okH x = true) : 0 ≤ idx t x ∧ idx t x ≤ 16777216 := by
  have hx : 0 ≤ x ∧ x ≤ 16777216 := by simpa [okH] using h
  unfold idx
  split
  · exact hx
  · split
    · omega
    · have a := monthOf_in (x / 24) (by omega)
      have b := mst_ge (monthOf (x / 24)) a.1
      omega
theorem tgt_wf {l : List S183} {p : Pol} {hour x : Int} (h : tgtB l p hour x = true) : (Job.mk 2 (tgtT l p hour x) (tgtI l p hour x)).wf := by
  unfold tgtB at h
  unfold tgtT tgtI Job.wf in64
  split at h
  · cases h
  · rename_i hz
    obtain ⟨h1, h2⟩ := Bool.and_eq_true_iff.1 h
    have hm : 1 ≤ tgtM l p hour x ∧ tgtM l p hour x ≤ 3 := by simpa [okT] using h2
    have hi := idx_in (t := tgtM l p hour x) h1
    rw [if_neg hz, if_neg hz, ofT, ofI, if_pos (by rw [h1, h2]; rfl), if_pos (by rw [h1, h2]; rfl)]
    simp only
    omega
set_option maxRecDepth 100000 in
set_option maxHeartbeats 2000000 in
theorem gbuild_calls (W : World) (gb cb ob : Nat) (A : Option Addr) (c : Nat) (l : List S183) (Ah : Option Addr) (nh ch : Nat) (p : Pol) (hour floor : Int) (sw : Bool) (mb n : Nat) (M : Job → Prop) (x above : Int)
    (hg : W.heap[gb]? = some (.cells #[.pointer (some ⟨cb, 0, none⟩), .slice Ah nh ch, .int .i64 p.r0, .int .i64 p.r1, .int .i64 p.r2, .int .i64 p.r3, .int .i64 p.r4, .int .i64 p.r5, .int .i64 p.r6, .int .i64 p.r7, .int .i64 p.r8, .int .i64 hour, .int .i64 floor, .bool sw, .map (some mb)] 144 (0, 0))) (hC : CatAt W cb ob A c l) (hr : Rising l) (hsz : l.length < 4611686018427387904) (hok : p.ok) (hh : 0 ≤ hour ∧ hour ≤ 1099511627776) (hM : JobsAt W mb n M) (hn : n < maxLen) :
    Calls Tryz.prog 72 #[.pointer (some ⟨gb, 0, none⟩), .int .i64 x, .int .i64 above] W fun e w' =>
      (∃ v, e = .returned v) ∧ JobsAt w' mb (n + 1) (fun z => (tgtB l p hour x = true ∧ above < tgtT l p hour x ∧ z = ⟨2, tgtT l p hour x, tgtI l p hour x⟩) ∨ M z) ∧ W.grownBy w' (some mb) := by
  have HM := Aside0.mk hM
  have HN := Aside0.mk hn
  have HG := Aside0.mk hg
  have HC := Aside0.mk hC
  have HR := Aside0.mk hr
  have HOK := Aside0.mk hok
  have HH := Aside0.mk hh
  have pg0 : W.cell? ⟨gb, 0, none⟩ = some (.pointer (some ⟨cb, 0, none⟩)) := (blk_cell hg 0).trans rfl
  have pg1 : W.cell? ⟨gb, 1, none⟩ = some (.slice Ah nh ch) := (blk_cell hg 1).trans rfl
  have pg2 : W.cell? ⟨gb, 2, none⟩ = some (.int .i64 p.r0) := (blk_cell hg 2).trans rfl
  have pg3 : W.cell? ⟨gb, 3, none⟩ = some (.int .i64 p.r1) := (blk_cell hg 3).trans rfl
  have pg4 : W.cell? ⟨gb, 4, none⟩ = some (.int .i64 p.r2) := (blk_cell hg 4).trans rfl
  have pg5 : W.cell? ⟨gb, 5, none⟩ = some (.int .i64 p.r3) := (blk_cell hg 5).trans rfl
  have pg6 : W.cell? ⟨gb, 6, none⟩ = some (.int .i64 p.r4) := (blk_cell hg 6).trans rfl
  have pg7 : W.cell? ⟨gb, 7, none⟩ = some (.int .i64 p.r5) := (blk_cell hg 7).trans rfl
  have pg8 : W.cell? ⟨gb, 8, none⟩ = some (.int .i64 p.r6) := (blk_cell hg 8).trans rfl
  have pg9 : W.cell? ⟨gb, 9, none⟩ = some (.int .i64 p.r7) := (blk_cell hg 9).trans rfl
  have pg10 : W.cell? ⟨gb, 10, none⟩ = some (.int .i64 p.r8) := (blk_cell hg 10).trans rfl
  have pg11 : W.cell? ⟨gb, 11, none⟩ = some (.int .i64 hour) := (blk_cell hg 11).trans rfl
  have pg12 : W.cell? ⟨gb, 12, none⟩ = some (.int .i64 floor) := (blk_cell hg 12).trans rfl
  have pg13 : W.cell? ⟨gb, 13, none⟩ = some (.bool sw) := (blk_cell hg 13).trans rfl
  have pg14 : W.cell? ⟨gb, 14, none⟩ = some (.map (some mb)) := (blk_cell hg 14).trans rfl
  have HB := Aside0.mk (Below.refl W.heap.size W)
  clear hM hn hg hC hr hok hh
  cases ht : tgtB l p hour x
  case false =>
    have HT := Aside0.mk ht
    clear ht
    go_enter Tryz.func72, Tryz.ntmps72
    go_wp2_with (first
      | (go_at_call 12; refine (target_calls _ cb ob A c l Ah nh ch p hour floor sw x (HC.out.below HB.out) HR.out hsz HOK.out HH.out).mono ?_; rintro e w1 ⟨rfl, hb_⟩; replace HB := Aside0.mk (below_step HB.out hb_); clear hb_; clear pg0 pg1 pg2 pg3 pg4 pg5 pg6 pg7 pg8 pg9 pg10 pg11 pg12 pg13 pg14; rw [HT.out])
      | ((with_reducible refine gate_dst (N := 6) rfl ?_); refine box_event ?hg (N := 6) ?hd (cs := #[.int .i64 0, .int .i64 0]) (t := 38) ?hr ?_; (case hd => rfl); (case hg => rfl); (case hr => first | (go_simp; done) | (go_simp; rfl)); intro b6 hb6 w2 Kb6 hb_; have Gb6 := Aside0.mk (by rw [hb6]; exact HB.out.size : W.heap.size ≤ b6); replace HB := Aside0.mk (below_step HB.out hb_); clear hb6; clear hb_; replace Kb6 := Aside0.mk Kb6)
      | (refine store_agg rfl 38 (.tmp 6) (.tmp 15) rfl rfl b6 #[.int .i64 (tgtT l p hour x), .int .i64 (tgtI l p hour x)] 38 _ rfl rfl Kb6.out size38 rfl (by simp [Value.oneCell']) ?_; intro w3 k_ g_; replace HB := Aside0.mk (HB.out.grown g_ HB.out.size (fun r e => by cases e; exact Gb6.out)); clear Kb6; have Kb6 := Aside0.mk k_; clear k_ g_; have cb6_0 := blk_cell Kb6.out 0; have cb6_1 := blk_cell Kb6.out 1; simp only [List.getElem?_toArray, List.getElem?_cons_zero, List.getElem?_cons_succ] at cb6_0 cb6_1)
      | fail)
    first | go_end0 | ((try simp only [Exit.inBlock, Exit.then]); refine bodyPost_ret (results_none rfl _ _ _) rfl ?_)
    refine ⟨⟨_, rfl⟩, ?_, grown_of_below HB.out (some mb)⟩
    have h1 := HM.out.below HB.out
    exact h1.weaken (Nat.le_succ _) (fun z => by simp)
  case true =>
    have HT := Aside0.mk ht
    have HWF := Aside0.mk (tgt_wf ht)
    clear ht
    by_cases ha : above < tgtT l p hour x
    case neg =>
      have HA := Aside0.mk ha
      go_enter Tryz.func72, Tryz.ntmps72
      go_wp2_with (first
      | (go_at_call 12; refine (target_calls _ cb ob A c l Ah nh ch p hour floor sw x (HC.out.below HB.out) HR.out hsz HOK.out HH.out).mono ?_; rintro e w1 ⟨rfl, hb_⟩; replace HB := Aside0.mk (below_step HB.out hb_); clear hb_; clear pg0 pg1 pg2 pg3 pg4 pg5 pg6 pg7 pg8 pg9 pg10 pg11 pg12 pg13 pg14; rw [HT.out])
      | ((with_reducible refine gate_dst (N := 6) rfl ?_); refine box_event ?hg (N := 6) ?hd (cs := #[.int .i64 0, .int .i64 0]) (t := 38) ?hr ?_; (case hd => rfl); (case hg => rfl); (case hr => first | (go_simp; done) | (go_simp; rfl)); intro b6 hb6 w2 Kb6 hb_; have Gb6 := Aside0.mk (by rw [hb6]; exact HB.out.size : W.heap.size ≤ b6); replace HB := Aside0.mk (below_step HB.out hb_); clear hb6; clear hb_; replace Kb6 := Aside0.mk Kb6)
      | (refine store_agg rfl 38 (.tmp 6) (.tmp 15) rfl rfl b6 #[.int .i64 (tgtT l p hour x), .int .i64 (tgtI l p hour x)] 38 _ rfl rfl Kb6.out size38 rfl (by simp [Value.oneCell']) ?_; intro w3 k_ g_; replace HB := Aside0.mk (HB.out.grown g_ HB.out.size (fun r e => by cases e; exact Gb6.out)); clear Kb6; have Kb6 := Aside0.mk k_; clear k_ g_; have cb6_0 := blk_cell Kb6.out 0; have cb6_1 := blk_cell Kb6.out 1; simp only [List.getElem?_toArray, List.getElem?_cons_zero, List.getElem?_cons_succ] at cb6_0 cb6_1)
      | fail)
      first | go_end0 | ((try simp only [Exit.inBlock, Exit.then]); refine bodyPost_ret (results_none rfl _ _ _) rfl ?_)
      refine ⟨⟨_, rfl⟩, ?_, grown_of_below HB.out (some mb)⟩
      have h1 := HM.out.below HB.out
      exact h1.weaken (Nat.le_succ _) (fun z => ⟨fun h => h.elim (fun h => absurd h.2.1 (by have := HA.out; omega)) id, .inr⟩)
    case pos =>
      have HA := Aside0.mk ha
      go_enter Tryz.func72, Tryz.ntmps72
      go_wp2_with (first
      | (go_at_call 12; refine (target_calls _ cb ob A c l Ah nh ch p hour floor sw x (HC.out.below HB.out) HR.out hsz HOK.out HH.out).mono ?_; rintro e w1 ⟨rfl, hb_⟩; replace HB := Aside0.mk (below_step HB.out hb_); clear hb_; clear pg0 pg1 pg2 pg3 pg4 pg5 pg6 pg7 pg8 pg9 pg10 pg11 pg12 pg13 pg14; rw [HT.out])
      | ((with_reducible refine gate_dst (N := 6) rfl ?_); refine box_event ?hg (N := 6) ?hd (cs := #[.int .i64 0, .int .i64 0]) (t := 38) ?hr ?_; (case hd => rfl); (case hg => rfl); (case hr => first | (go_simp; done) | (go_simp; rfl)); intro b6 hb6 w2 Kb6 hb_; have Gb6 := Aside0.mk (by rw [hb6]; exact HB.out.size : W.heap.size ≤ b6); replace HB := Aside0.mk (below_step HB.out hb_); clear hb6; clear hb_; replace Kb6 := Aside0.mk Kb6)
      | (refine store_agg rfl 38 (.tmp 6) (.tmp 15) rfl rfl b6 #[.int .i64 (tgtT l p hour x), .int .i64 (tgtI l p hour x)] 38 _ rfl rfl Kb6.out size38 rfl (by simp [Value.oneCell']) ?_; intro w3 k_ g_; replace HB := Aside0.mk (HB.out.grown g_ HB.out.size (fun r e => by cases e; exact Gb6.out)); clear Kb6; have Kb6 := Aside0.mk k_; clear k_ g_; have cb6_0 := blk_cell Kb6.out 0; have cb6_1 := blk_cell Kb6.out 1; simp only [List.getElem?_toArray, List.getElem?_cons_zero, List.getElem?_cons_succ] at cb6_0 cb6_1)
      | (go_at_call 73; refine (gput_calls _ gb cb Ah nh ch p hour floor sw mb n M 2 (tgtT l p hour x) (tgtI l p hour x) ((HB.out.block _ (blk_lt HG.out)).trans HG.out) (HM.out.below HB.out) HN.out HWF.out).mono ?_; rintro e w4 ⟨⟨vv, rfl⟩, hM4, hg4⟩; have H4 := Aside0.mk hM4; have G4 := Aside0.mk ((grown_of_below HB.out (some mb)).trans hg4); clear hM4 hg4 cb6_0 cb6_1 Kb6 HB)
      | fail)
      first | go_end0 | ((try simp only [Exit.inBlock, Exit.then]); refine bodyPost_ret (results_none rfl _ _ _) rfl ?_)
      exact ⟨⟨_, rfl⟩, H4.out.weaken (Nat.le_refl _) (fun z => ⟨fun h => h.elim (fun h => .inl h.2.2) .inr, fun h => h.elim (fun h => .inl ⟨trivial, HA.out, h⟩) .inr⟩), G4.out⟩
end Go.Proofs.YthhmfeiefbnhcaaGreat.Due
namespace Go.Proofs.YthhmfeiefbnhcaaGreat.Due
open Go.RowKit Go.Proofs.YthhmfeiefbnhcaaGreat.PDueParts Go.Proofs.YthhmfeiefbnhcaaGreatW.PrintWords Go.Proofs.YthhmfeiefbnhcaaGreatW.PrintLast
set_option linter.unusedVariables false
set_option linter.unusedSimpArgs false
theorem info2 : (Tryz.prog.info? 2).map (fun i => (i.zero, i.size, i.bytes)) = some (some (.int .i64 0), 1, 8) := by kernel_rfl
theorem R_empty {α : Type} {d : Kd α} {W : World} {base b e : Nat} (hb : W.heap[b]? = some (.cells #[] e (0, 0))) (hge : base ≤ b) : d.R e W base (fun _ => True) (.slice (some ⟨b, 0, none⟩) 0 0) [] :=
  ⟨fun _ _ => trivial, [], ⟨by simp, .inr ⟨b, 0, #[], rfl, hge, hb, Nat.le_refl _, Nat.zero_le _, by simp, by simp⟩⟩, by simp, fun j p hj => by simp at hj⟩
set_option maxRecDepth 100000 in
set_option maxHeartbeats 1000000 in
theorem clone_calls (W : World) (Ah : Option Addr) (nh ch : Nat) (hs : List Int) (hC : Kd.C (Kd.int .i64) W Ah nh hs) (hsz : nh ≤ 1000000) (hn : Ah = none → ch = 0) :
    Calls Tryz.prog 110 #[.slice Ah nh ch] W fun e w' => ∃ v, e = .returned v ∧ Kd.R (Kd.int .i64) 2 w' W.heap.size (fun _ => True) v hs ∧ Below W.heap.size W w' := by
  have HC := Aside0.mk hC
  have HL := Aside0.mk (show (([] : List Int).length + nh) * 8 ≤ 140737488355328 by simp; omega)
  have HB := Aside0.mk (Below.refl W.heap.size W)
  have q23 : ∀ (w : World) (a : Option Addr) (n c n' c' : Nat), (binOp .eql 23 (.slice a n c) (.slice none n' c')).run Tryz.prog w = .ok (.bool a.isNone) w := fun w a n c n' c' => Lib.run_eql_slice_nil w _ _ a n c n' c' Tryz.underlying23
  cases Ah with
  | none =>
    have h0 : nh = 0 := by
      apply Classical.byContradiction
      intro h
      obtain ⟨ad, h1, _⟩ := hC.2.2 (by omega)
      cases h1
    subst h0
    have hnil : hs = [] := List.eq_nil_of_length_eq_zero hC.1
    subst hnil
    clear hC hn
    go_enter Tryz.func110, Tryz.ntmps110
    go_wp2
    go_ret
    exact ⟨_, rfl, Kd.R_nil _ _ _ _ _, Below.refl _ _⟩
  | some ad =>
    clear hC hn
    go_enter Tryz.func110, Tryz.ntmps110
    go_wp2_with (first
      | ((with_reducible refine gate_dst (N := 5) rfl ?_); refine brow_event ?hg (N := 5) ?hd (cs := #[]) (t := 2) (n := 0) ?hr ?_; (case hd => rfl); (case hg => rfl); (case hr => first | (go_simp; done) | (go_simp; rfl)); intro b5 hb5 w1 Kb5 hb_; have Gb5 := Aside0.mk (by rw [hb5]; exact HB.out.size : W.heap.size ≤ b5); replace HB := Aside0.mk (below_step HB.out hb_); clear hb5; clear hb_; replace Kb5 := Aside0.mk Kb5)
      | ((with_reducible refine gate_dst (N := 7) rfl ?_); refine Kd.R_append_rows (Kd.int .i64) (w0 := W) W.heap.size rfl (.tmp 5) (.tmp 6) 23 2 (.int .i64 0) 8 rfl Tryz.underlying23 info2 rfl (by decide) (by omega) (.slice (some ⟨b5, 0, none⟩) 0 0) [] hs (some ad) nh ch (fun _ => True) (fun _ => False) rfl rfl (R_empty Kb5.out Gb5.out) (Kd.C_below HC.out HB.out) (fun _ _ h => h) (fun _ h => h.elim) (fun _ _ => trivial) HB.out HB.out.size HL.out ?_; intro v1 w2 hR1 hb1 hg1 _; have HR := Aside0.mk hR1; clear HB; have HB := Aside0.mk hb1; clear hR1 hb1 hg1)
      | fail)
    go_ret
    exact ⟨_, rfl, HR.out, HB.out⟩
end Go.Proofs.YthhmfeiefbnhcaaGreat.Due
namespace Go.Proofs
open Go.Shelf
def Tryz.deleteFunc_ren : Go.Shelf.Ren := ⟨fun | 10 => 109 | 6 => 144 | n => n, fun | 22 => 23 | 23 => 2 | 25 => 137 | 3 => 3 | 4 => 4 | 0 => 0 | n => n, fun | n => n⟩
theorem Tryz.deleteFunc : Go.Proofs.SlLaysH.n10 Tryz.prog Tryz.deleteFunc_ren := {
  mixed := by kernel_rfl
  f6 := ⟨Tryz.f144.name, by decide, Tryz.func144.trans (congrArg some (by kernel_rfl))⟩
  f10 := ⟨Tryz.f109.name, by decide, Tryz.func109.trans (congrArg some (by kernel_rfl))⟩
  t0 := Tryz.underlying0
  a0 := Tryz.isAgg0
  z0 := Tryz.sizeOf0
  v0 := Tryz.zeroValue0
  t3 := Tryz.underlying3
  a3 := Tryz.isAgg3
  z3 := Tryz.sizeOf3
  v3 := Tryz.zeroValue3
  t4 := Tryz.underlying4
  a4 := Tryz.isAgg4
  z4 := Tryz.sizeOf4
  v4 := Tryz.zeroValue4
  t22 := Tryz.underlying23
  a22 := Tryz.isAgg23
  z22 := Tryz.sizeOf23
  v22 := Tryz.zeroValue23
  a23 := Tryz.isAgg2
  z23 := Tryz.sizeOf2
  t25 := Tryz.underlying137
  a25 := Tryz.isAgg137
  z25 := Tryz.sizeOf137
  v25 := Tryz.zeroValue137 }
def Tryz.containsFunc_ren : Go.Shelf.Ren := ⟨fun | 8 => 114 | 6 => 144 | n => n, fun | 22 => 23 | 23 => 2 | 25 => 137 | 4 => 4 | 3 => 3 | 0 => 0 | n => n, fun | n => n⟩
theorem Tryz.containsFunc : Go.Proofs.SlLaysH.n8 Tryz.prog Tryz.containsFunc_ren := {
  mixed := by kernel_rfl
  f6 := ⟨Tryz.f144.name, by decide, Tryz.func144.trans (congrArg some (by kernel_rfl))⟩
  f8 := ⟨Tryz.f114.name, by decide, Tryz.func114.trans (congrArg some (by kernel_rfl))⟩
  t0 := Tryz.underlying0
  a0 := Tryz.isAgg0
  z0 := Tryz.sizeOf0
  v0 := Tryz.zeroValue0
  t3 := Tryz.underlying3
  a3 := Tryz.isAgg3
  z3 := Tryz.sizeOf3
  v3 := Tryz.zeroValue3
  t4 := Tryz.underlying4
  a4 := Tryz.isAgg4
  z4 := Tryz.sizeOf4
  v4 := Tryz.zeroValue4
  t22 := Tryz.underlying23
  a22 := Tryz.isAgg23
  z22 := Tryz.sizeOf23
  v22 := Tryz.zeroValue23
  a23 := Tryz.isAgg2
  z23 := Tryz.sizeOf2
  t25 := Tryz.underlying137
  a25 := Tryz.isAgg137
  z25 := Tryz.sizeOf137
  v25 := Tryz.zeroValue137 }
def Tryz.sortFunc_ren : Go.Shelf.Ren := ⟨fun | 6 => 75 | 15 => 118 | 14 => 117 | 28 => 154 | 29 => 155 | 20 => 146 | 21 => 147 | 22 => 148 | 23 => 149 | 24 => 150 | 25 => 151 | 26 => 152 | 27 => 153 | 46 => 172 | 47 => 173 | 48 => 174 | 49 => 175 | 50 => 176 | 57 => 197 | n => n, fun | 22 => 81 | 24 => 84 | 25 => 91 | 3 => 3 | 39 => 196 | 0 => 0 | 53 => 231 | 55 => 212 | 4 => 4 | 46 => 225 | 45 => 224 | 50 => 179 | 5 => 5 | 9 => 9 | 66 => 247 | 70 => 251 | 76 => 264 | 77 => 265 | n => n, fun | n => n⟩
theorem Tryz.sortFunc : Go.Proofs.SlLaysF0.n6 Tryz.prog Tryz.sortFunc_ren := {
  mixed := by kernel_rfl
  f6 := ⟨Tryz.f75.name, by decide, Tryz.func75.trans (congrArg some (by kernel_rfl))⟩
  f14 := ⟨Tryz.f117.name, by decide, Tryz.func117.trans (congrArg some (by kernel_rfl))⟩
  f15 := Tryz.func118.trans (congrArg some (by kernel_rfl))
  f20 := ⟨Tryz.f146.name, by decide, Tryz.func146.trans (congrArg some (by kernel_rfl))⟩
  f21 := ⟨Tryz.f147.name, by decide, Tryz.func147.trans (congrArg some (by kernel_rfl))⟩
  f22 := ⟨Tryz.f148.name, by decide, Tryz.func148.trans (congrArg some (by kernel_rfl))⟩
  f23 := ⟨Tryz.f149.name, by decide, Tryz.func149.trans (congrArg some (by kernel_rfl))⟩
  f24 := ⟨Tryz.f150.name, by decide, Tryz.func150.trans (congrArg some (by kernel_rfl))⟩
  f25 := ⟨Tryz.f151.name, by decide, Tryz.func151.trans (congrArg some (by kernel_rfl))⟩
  f26 := ⟨Tryz.f152.name, by decide, Tryz.func152.trans (congrArg some (by kernel_rfl))⟩
  f27 := ⟨Tryz.f153.name, by decide, Tryz.func153.trans (congrArg some (by kernel_rfl))⟩
  f28 := Tryz.func154.trans (congrArg some (by kernel_rfl))
  f29 := Tryz.func155.trans (congrArg some (by kernel_rfl))
  f46 := ⟨Tryz.f172.name, by decide, Tryz.func172.trans (congrArg some (by kernel_rfl))⟩
  f47 := Tryz.func173.trans (congrArg some (by kernel_rfl))
  f48 := Tryz.func174.trans (congrArg some (by kernel_rfl))
  f49 := ⟨Tryz.f175.name, by decide, Tryz.func175.trans (congrArg some (by kernel_rfl))⟩
  f50 := ⟨Tryz.f176.name, by decide, Tryz.func176.trans (congrArg some (by kernel_rfl))⟩
  f57 := ⟨Tryz.f197.name, by decide, Tryz.func197.trans (congrArg some (by kernel_rfl))⟩
  t0 := Tryz.underlying0
  a0 := Tryz.isAgg0
  z0 := Tryz.sizeOf0
  v0 := Tryz.zeroValue0
  t3 := Tryz.underlying3
  a3 := Tryz.isAgg3
  z3 := Tryz.sizeOf3
  v3 := Tryz.zeroValue3
  t4 := Tryz.underlying4
  a4 := Tryz.isAgg4
  z4 := Tryz.sizeOf4
  v4 := Tryz.zeroValue4
  t5 := Tryz.underlying5
  a5 := Tryz.isAgg5
  z5 := Tryz.sizeOf5
  v5 := Tryz.zeroValue5
  t9 := Tryz.underlying9
  a9 := Tryz.isAgg9
  z9 := Tryz.sizeOf9
  v9 := Tryz.zeroValue9
  t22 := Tryz.underlying81
  a22 := Tryz.isAgg81
  z22 := Tryz.sizeOf81
  v22 := Tryz.zeroValue81
  t25 := Tryz.underlying91
  a25 := Tryz.isAgg91
  z25 := Tryz.sizeOf91
  v25 := Tryz.zeroValue91
  t39 := Tryz.underlying196
  a39 := Tryz.isAgg196
  z39 := Tryz.sizeOf196
  v39 := Tryz.zeroValue196
  t45 := Tryz.underlying224
  a45 := Tryz.isAgg224
  z45 := Tryz.sizeOf224
  v45 := Tryz.zeroValue224
  t46 := Tryz.underlying225
  a46 := Tryz.isAgg225
  z46 := Tryz.sizeOf225
  v46 := Tryz.zeroValue225
  t50 := Tryz.underlying179
  a50 := Tryz.isAgg179
  z50 := Tryz.sizeOf179
  v50 := Tryz.zeroValue179
  t53 := Tryz.underlying231
  a53 := Tryz.isAgg231
  z53 := Tryz.sizeOf231
  v53 := Tryz.zeroValue231
  t55 := Tryz.underlying212
  a55 := Tryz.isAgg212
  z55 := Tryz.sizeOf212
  v55 := Tryz.zeroValue212
  t66 := Tryz.underlying247
  a66 := Tryz.isAgg247
  z66 := Tryz.sizeOf247
  v66 := Tryz.zeroValue247
  t70 := Tryz.underlying251
  a70 := Tryz.isAgg251
  z70 := Tryz.sizeOf251
  v70 := Tryz.zeroValue251
  t76 := Tryz.underlying264
  a76 := Tryz.isAgg264
  z76 := Tryz.sizeOf264
  v76 := Tryz.zeroValue264
  t77 := Tryz.underlying265
  a77 := Tryz.isAgg265
  z77 := Tryz.sizeOf265
  v77 := Tryz.zeroValue265 }
end Go.Proofs
namespace Go.Proofs.YthhmfeiefbnhcaaGreat.Due
open Go.RowKit Go.Shelf Go.Lib Go.Sort Go.Proofs.YthhmfeiefbnhcaaGreat.PDueParts Go.Proofs.YthhmfeiefbnhcaaGreatW.PrintWords Go.Proofs.YthhmfeiefbnhcaaGreatW.PrintLast
set_option linter.unusedVariables false
set_option linter.unusedSimpArgs false
theorem count1_calls (floor x : Int) (b1 gb : Nat) (W : World) (h1 : W.cell? ⟨b1, 0, none⟩ = some (.pointer (some ⟨gb, 0, none⟩))) (h2 : W.cell? ⟨gb, 12, none⟩ = some (.int .i64 floor)) :
    FnGives Tryz.prog 111 #[.pointer (some ⟨b1, 0, none⟩)] #[.int .i64 x] (.bool (decide (x < floor))) W := by
  show Calls Tryz.prog 111 #[.int .i64 x, .pointer (some ⟨b1, 0, none⟩)] W _
  go_enter Tryz.func111, Tryz.ntmps111
  go_wp2
  all_goals (go_ret; exact ⟨by simp_all, 0, rfl⟩)
theorem enters111 : ∀ args w, (callFunc 111 args).run Tryz.prog w = .ok (.enter 111 args) w := enters_of Tryz.func111 (by kernel_rfl) rfl
set_option maxRecDepth 100000 in
set_option maxHeartbeats 1000000 in
theorem delnil_calls (fv : Value) (w : World) : Calls Tryz.prog 109 #[.slice none 0 0, fv] w fun e w' => e = .returned (.slice none 0 0) ∧ w' = w := by
  have hcon := AnyE.slices_IndexFunc_empty (P := Tryz.prog) (ρ := Tryz.deleteFunc_ren) { Tryz.deleteFunc with } none 0 fv w
  change Calls Tryz.prog 144 _ _ _ at hcon
  go_enter Tryz.func109, Tryz.ntmps109
  go_wp2_with (go_at_call 144; refine hcon.mono ?_; rintro e w' ⟨rfl, rfl⟩)
  go_ret
  exact ⟨rfl, rfl⟩
theorem C_int {w : World} {b : Nat} {xs : List Int} (hn : xs.length ≤ 9223372036854775807) (h : ∀ j (hj : j < xs.length), w.cell? ⟨b, j, none⟩ = some (.int .i64 xs[j])) : Kd.C (Kd.int .i64) w (some ⟨b, 0, none⟩) xs.length xs :=
  ⟨rfl, hn, fun _ => ⟨_, rfl, fun j q hj => ⟨[.int .i64 q], rfl, rfl, fun i u hi => by
    obtain ⟨hj1, rfl⟩ := List.getElem?_eq_some_iff.1 hj
    cases i with
    | zero =>
      have hu : Value.int .i64 xs[j] = u := by simpa using hi
      subst hu
      rw [show j * (Kd.int .i64).sz + 0 = j from by show j * 1 + 0 = j; omega, add_plain]
      exact h j hj1
    | succ i => simp at hi⟩⟩⟩
theorem int_cell {w : World} {A : Option Addr} {n : Nat} {xs : List Int} (h : Kd.C (Kd.int .i64) w A n xs) (j : Nat) (hj : j < xs.length) : ∃ ad, A = some ad ∧ w.cell? (ad.add j) = some (.int .i64 xs[j]) := by
  obtain ⟨ad, hA, hc⟩ := h.2.2 (by rw [← h.1]; omega)
  obtain ⟨c, hl, hK, hcell⟩ := hc j xs[j] (List.getElem?_eq_getElem hj)
  have hc2 : c = [.int .i64 xs[j]] := hK
  subst hc2
  refine ⟨ad, hA, ?_⟩
  have := hcell 0 _ rfl
  rwa [show j * (Kd.int .i64).sz + 0 = j from by show j * 1 + 0 = j; omega] at this
structure Hrs (w : World) (A : Option Addr) (xs : List Int) : Prop where
  le : xs.length ≤ 1000000
  at_ : xs = [] ∨ ∃ g, A = some ⟨g, 0, none⟩ ∧ ∀ j (hj : j < xs.length), w.cell? ⟨g, j, none⟩ = some (.int .i64 xs[j])
theorem Hrs.grown {w w' : World} {A : Option Addr} {xs : List Int} {row : Option Nat} (h : Hrs w A xs) (hg : w.grownBy w' row) (hr : ∀ k, row = some k → ∃ o : Obj, w.heap[k]? = some o ∧ o.isCells = false) : Hrs w' A xs := by
  refine ⟨h.le, h.at_.imp id (fun ⟨g, hA, hc⟩ => ⟨g, hA, fun j hj => ?_⟩)⟩
  refine (World.cell?_of_block (hg.block g (World.block_lt_of_cell? w _ (hc j hj)) (fun e => ?_))).trans (hc j hj)
  obtain ⟨o, ho, hcl⟩ := hr g e.symm
  have := hc j hj
  unfold World.cell? at this
  rw [ho] at this
  cases o <;> first | (cases hcl; done) | (cases this; done)
theorem Hrs.below {w w' : World} {A : Option Addr} {xs : List Int} (h : Hrs w A xs) (hb : Below w.heap.size w w') : Hrs w' A xs := h.grown (grown_of_below hb none) (fun k e => by cases e)
set_option maxRecDepth 100000 in
set_option maxHeartbeats 2000000 in
theorem del_calls (W : World) (base : Nat) (v : Value) (hs : List Int) (floor : Int) (b1 gb : Nat) (hR : Kd.R (Kd.int .i64) 2 W base (fun _ => True) v hs) (h1 : W.cell? ⟨b1, 0, none⟩ = some (.pointer (some ⟨gb, 0, none⟩))) (h2 : W.cell? ⟨gb, 12, none⟩ = some (.int .i64 floor))
    (hb1 : v.ownBlock ≠ some b1) (hgb : v.ownBlock ≠ some gb) (hb : base ≤ W.heap.size) (hsz : hs.length ≤ 1000000) :
    Calls Tryz.prog 109 #[v, .func (.func 111) #[] #[.pointer (some ⟨b1, 0, none⟩)]] W fun e w' => ∃ A c, e = .returned (.slice A (hs.filter fun x => !decide (x < floor)).length c) ∧ Hrs w' A (hs.filter fun x => !decide (x < floor)) ∧ Below base W w' := by
  have ho := Kd.own_of_R (enc := Value.int .i64) hR
  rcases ho.2 with ⟨rfl, h0⟩ | ⟨g, c, cur, rfl, hge, hg, hlc, hcm, hcs, htake⟩
  · have hnil : hs = [] := List.eq_nil_of_length_eq_zero (by omega)
    subst hnil
    refine (delnil_calls _ W).mono ?_
    rintro e w' ⟨rfl, rfl⟩
    exact ⟨none, 0, rfl, ⟨by simp, .inl rfl⟩, Below.refl _ _⟩
  · have hne1 : b1 ≠ g := fun e => hb1 (by rw [e]; rfl)
    have hne2 : gb ≠ g := fun e => hgb (by rw [e]; rfl)
    have hlt := blk_lt hg
    have hH : Holds (Value.int .i64) W g 0 hs.toArray := fun j hj => by
      have hj' : j < hs.length := by simpa using hj
      refine ⟨?_, blk_frozen hg _⟩
      rw [Nat.zero_add, blk_cell hg j]
      have := congrArg (fun z => z[j]?) htake
      simp only [List.getElem?_take] at this
      rw [if_pos (by omega)] at this
      simp only [Array.getElem?_toList] at this
      rw [this]
      simp [encs, hj']
    have hcon := AnyE.slices_DeleteFunc Tryz.deleteFunc (Value.int .i64) (fun _ => rfl) (fun x => decide (x < floor)) 111 #[.pointer (some ⟨b1, 0, none⟩)] enters111 0 Tryz.zeroValue2 g 0 c hs.toArray W
      (fun w x hb => count1_calls floor x b1 gb w ((hb.cell (p := ⟨b1, 0, none⟩) (World.block_lt_of_cell? W _ h1)).trans h1) ((hb.cell (p := ⟨gb, 12, none⟩) (World.block_lt_of_cell? W _ h2)).trans h2))
      (fun n os dk x _ => count1_calls floor x b1 gb _
        (by
          unfold sortWorld
          rw [cell?_grow _ _ _ (by show b1 < (putRow _ _ _ _ _).heap.size; rw [size_putRow]; exact World.block_lt_of_cell? W _ h1), cell?_putRow_other _ _ g 0 _ _ (Or.inl hne1)]
          exact h1)
        (by
          unfold sortWorld
          rw [cell?_grow _ _ _ (by show gb < (putRow _ _ _ _ _).heap.size; rw [size_putRow]; exact World.block_lt_of_cell? W _ h2), cell?_putRow_other _ _ g 0 _ _ (Or.inl hne2)]
          exact h2))
      hH (by simp; omega) (by simpa using hlc)
    change Calls Tryz.prog 109 _ _ _ at hcon
    simp only [List.size_toArray, List.toList_toArray] at hcon
    refine hcon.mono ?_
    rintro e w' ⟨rfl, q, rfl⟩
    obtain ⟨kept, hk⟩ : ∃ kept, kept = hs.filter fun x => !decide (x < floor) := ⟨_, rfl⟩
    have hkl : kept.length ≤ hs.length := by rw [hk]; exact List.length_filter_le _ _
    rw [← hk]
    refine ⟨some ⟨g, 0, none⟩, c, rfl, ⟨by omega, .inr ⟨g, rfl, fun j hj => ?_⟩⟩, ?_⟩
    · have hh := holds_putRow (Value.int .i64) (Sort.ahead W q) g 0 hs.toArray (kept ++ List.replicate (hs.length - kept.length) 0).toArray hH (by simp; omega) j (by simp; omega)
      rw [Nat.zero_add] at hh
      rw [hh.1]
      have hlt2 : j < (kept ++ List.replicate (hs.length - kept.length) 0).toArray.size := by simp; omega
      rw [getElem!_pos _ j hlt2]
      simp [List.getElem_append, hj]
    · have hgr := grownBy_sortedI (w := W) (g := g) (n := q) (os := #[]) (kept ++ List.replicate (hs.length - kept.length) 0).toArray
      rw [grow_empty] at hgr
      exact (Below.refl base W).grown hgr hb (fun k e => by cases e; exact hge)
set_option maxRecDepth 100000 in
set_option maxHeartbeats 2000000 in
theorem counts_calls (W : World) (gb cb : Nat) (Ah : Option Addr) (nh ch : Nat) (p : Pol) (hour floor : Int) (sw : Bool) (mb : Nat) (hs : List Int)
    (hg : W.heap[gb]? = some (.cells #[.pointer (some ⟨cb, 0, none⟩), .slice Ah nh ch, .int .i64 p.r0, .int .i64 p.r1, .int .i64 p.r2, .int .i64 p.r3, .int .i64 p.r4, .int .i64 p.r5, .int .i64 p.r6, .int .i64 p.r7, .int .i64 p.r8, .int .i64 hour, .int .i64 floor, .bool sw, .map (some mb)] 144 (0, 0))) (hC : Kd.C (Kd.int .i64) W Ah nh hs) (hsz : nh ≤ 1000000) (hn : Ah = none → ch = 0) :
    Calls Tryz.prog 69 #[.pointer (some ⟨gb, 0, none⟩)] W fun e w' => ∃ A c, e = .returned (.slice A (hs.filter fun x => !decide (x < floor)).length c) ∧ Hrs w' A (hs.filter fun x => !decide (x < floor)) ∧ Below W.heap.size W w' := by
  have HC := Aside0.mk hC
  have HG := Aside0.mk hg
  have HN := Aside0.mk hn
  have pg : W.cell? ⟨gb, 1, none⟩ = some (.slice Ah nh ch) := (blk_cell hg 1).trans rfl
  have HF := Aside0.mk (show W.cell? ⟨gb, 12, none⟩ = some (.int .i64 floor) from (blk_cell hg 12).trans rfl)
  have HGL := Aside0.mk (blk_lt hg)
  have HLL := Aside0.mk hC.1
  have HB := Aside0.mk (Below.refl W.heap.size W)
  clear hC hg hn
  go_enter Tryz.func69, Tryz.ntmps69
  go_wp2_with (first
    | ((with_reducible refine gate_dst (N := 1) rfl ?_); refine box_event ?hg (N := 1) ?hd (cs := #[.pointer (some ⟨gb, 0, none⟩)]) (t := 142) ?hr ?_; (case hd => rfl); (case hg => rfl); (case hr => first | (go_simp; done) | (go_simp; rfl)); intro b1 hb1 w1 Kb1 hb_; have Gb1 := Aside0.mk (by rw [hb1]; exact HB.out.size : W.heap.size ≤ b1); replace HB := Aside0.mk (below_step HB.out hb_); clear hb1; replace pg := pw_cell_below hb_ pg; clear hb_; have cb1_0 := blk_cell Kb1 0; simp only [List.getElem?_toArray, List.getElem?_cons_zero, List.getElem?_cons_succ] at cb1_0; replace Kb1 := Aside0.mk Kb1)
    | (go_at_call 110; refine (clone_calls _ Ah nh ch hs (Kd.C_below HC.out HB.out) hsz HN.out).mono ?_; rintro e w2 ⟨v2, rfl, hR2, hb_⟩; have HR2 := Aside0.mk hR2; have HS2 := Aside0.mk HB.out.size; have HL1 := Aside0.mk (blk_lt Kb1.out); have HS3 := Aside0.mk hb_.size; clear hR2; replace HB := Aside0.mk (below_step HB.out hb_); replace cb1_0 := pw_cell_below hb_ cb1_0; replace Kb1 := Aside0.mk ((hb_.block _ (blk_lt Kb1.out)).trans Kb1.out); clear hb_)
    | (go_at_call 109; refine (del_calls w2 w1.heap.size v2 hs floor b1 gb HR2.out cb1_0 (pw_cell_below HB.out HF.out) (fun e => by obtain ⟨_, ho⟩ := Kd.R_own HR2.out; have := own_base ho _ e; have := HL1.out; omega) (fun e => by obtain ⟨_, ho⟩ := Kd.R_own HR2.out; have := own_base ho _ e; have := HS2.out; have := HGL.out; omega) HS3.out (by rw [HLL.out]; exact hsz)).mono ?_; rintro e w3 ⟨A3, c3, rfl, hC3, hb3⟩; have HC3 := Aside0.mk hC3; have HB3 := Aside0.mk hb3; clear hC3 hb3)
    | fail)
  go_ret
  exact ⟨A3, c3, rfl, HC3.out, HB.out.trans (HB3.out.mono HS2.out)⟩
theorem entry1_calls (f e x : Int) (b6 b7 : Nat) (W : World) (h1 : W.cell? ⟨b6, 0, none⟩ = some (.int .i64 f)) (h2 : W.cell? ⟨b7, 0, none⟩ = some (.int .i64 e)) :
    FnGives Tryz.prog 115 #[.pointer (some ⟨b6, 0, none⟩), .pointer (some ⟨b7, 0, none⟩)] #[.int .i64 x] (.bool (decide (f ≤ x) && decide (x < e))) W := by
  show Calls Tryz.prog 115 #[.int .i64 x, .pointer (some ⟨b6, 0, none⟩), .pointer (some ⟨b7, 0, none⟩)] W _
  by_cases c : f ≤ x
  · go_enter Tryz.func115, Tryz.ntmps115
    go_wp2
    go_ret
    exact ⟨by rw [decide_eq_true c, Bool.true_and]; rfl, 0, rfl⟩
  · go_enter Tryz.func115, Tryz.ntmps115
    go_wp2
    go_ret
    exact ⟨by rw [decide_eq_false (by omega)]; rfl, 0, rfl⟩
theorem enters115 : ∀ args w, (callFunc 115 args).run Tryz.prog w = .ok (.enter 115 args) w := enters_of Tryz.func115 (by kernel_rfl) rfl
theorem contains_calls (W : World) (A : Option Addr) (n c : Nat) (xs : List Int) (f e : Int) (b6 b7 : Nat) (hH : Hrs W A xs) (hn : n = xs.length) (h1 : W.cell? ⟨b6, 0, none⟩ = some (.int .i64 f)) (h2 : W.cell? ⟨b7, 0, none⟩ = some (.int .i64 e)) :
    Calls Tryz.prog 114 #[.slice A n c, .func (.func 115) #[] #[.pointer (some ⟨b6, 0, none⟩), .pointer (some ⟨b7, 0, none⟩)]] W fun r w' => r = .returned (.bool (xs.any fun h => decide (f ≤ h) && decide (h < e))) ∧ Below W.heap.size W w' := by
  subst hn
  by_cases h0 : xs = []
  · subst h0
    have hcon := AnyE.slices_ContainsFunc_empty Tryz.containsFunc A c (.func (.func 115) #[] #[.pointer (some ⟨b6, 0, none⟩), .pointer (some ⟨b7, 0, none⟩)]) W
    change Calls Tryz.prog 114 _ _ _ at hcon
    refine hcon.mono ?_
    rintro r w' ⟨rfl, rfl⟩
    exact ⟨rfl, Below.refl _ _⟩
  · obtain ⟨g, rfl, hc⟩ := hH.at_.resolve_left h0
    have hcon := AnyE.slices_ContainsFunc Tryz.containsFunc (Value.int .i64) (fun h => decide (f ≤ h) && decide (h < e)) 115 #[.pointer (some ⟨b6, 0, none⟩), .pointer (some ⟨b7, 0, none⟩)] enters115 g 0 xs.length c xs W
      (fun w x hb => entry1_calls f e x b6 b7 w ((hb.cell (p := ⟨b6, 0, none⟩) (World.block_lt_of_cell? W _ h1)).trans h1) ((hb.cell (p := ⟨b7, 0, none⟩) (World.block_lt_of_cell? W _ h2)).trans h2))
      (Nat.le_refl _) (by have := hH.le; omega) (fun j hj => by rw [Nat.zero_add, hc j hj, getElem!_pos xs j hj])
    change Calls Tryz.prog 114 _ _ _ at hcon
    rw [List.take_length] at hcon
    refine hcon.mono ?_
    rintro r w' ⟨rfl, q, rfl⟩
    exact ⟨rfl, pw_below_drewN (Below.refl _ _) q⟩
end Go.Proofs.YthhmfeiefbnhcaaGreat.Due
namespace Go.Proofs.YthhmfeiefbnhcaaGreat.Due
open Go.RowKit Go.Proofs.YthhmfeiefbnhcaaGreat.PDueParts Go.Proofs.YthhmfeiefbnhcaaGreatW.PrintWords Go.Proofs.YthhmfeiefbnhcaaGreatW.PrintLast
set_option linter.unusedVariables false
set_option linter.unusedSimpArgs false
theorem map_obj {w : World} {b n : Nat} {M : Job → Prop} (h : JobsAt w b n M) : ∃ o : Obj, w.heap[b]? = some o ∧ o.isCells = false := by
  obtain ⟨D, ⟨es, clock, hb, _⟩, _⟩ := h.own
  exact ⟨_, hb, rfl⟩
def offB (p : Pol) (hour : Int) (cnt : List Int) (x : S43) : Bool := decide (x.f0.f0 = 3) && !x.f4 && decide ((endP x.f0.f0 x.f0.f1) ≤ hour - p.r4) && !(cnt.any fun h => decide ((fromP x.f0.f0 x.f0.f1) ≤ h) && decide (h < (endP x.f0.f0 x.f0.f1)))
def entJ (l : List S183) (p : Pol) (hour floor : Int) (cnt : List Int) (x : S43) (z : Job) : Prop :=
  if (endP x.f0.f0 x.f0.f1) ≤ floor then z = ⟨1, x.f0.f0, x.f0.f1⟩
  else (tgtB l p hour (fromP x.f0.f0 x.f0.f1) = true ∧ x.f0.f0 < tgtT l p hour (fromP x.f0.f0 x.f0.f1) ∧ z = ⟨2, tgtT l p hour (fromP x.f0.f0 x.f0.f1), tgtI l p hour (fromP x.f0.f0 x.f0.f1)⟩) ∨ (offB p hour cnt x = true ∧ z = ⟨3, x.f0.f0, x.f0.f1⟩)
set_option maxRecDepth 100000 in
set_option maxHeartbeats 4000000 in
theorem entry_calls (W : World) (gb cb ob : Nat) (A : Option Addr) (c : Nat) (l : List S183) (Ah : Option Addr) (nh ch : Nat) (p : Pol) (hour floor : Int) (sw : Bool) (mb n : Nat) (M : Job → Prop) (x : S43) (Ac : Option Addr) (nc cc : Nat) (cnt : List Int)
    (hg : W.heap[gb]? = some (.cells #[.pointer (some ⟨cb, 0, none⟩), .slice Ah nh ch, .int .i64 p.r0, .int .i64 p.r1, .int .i64 p.r2, .int .i64 p.r3, .int .i64 p.r4, .int .i64 p.r5, .int .i64 p.r6, .int .i64 p.r7, .int .i64 p.r8, .int .i64 hour, .int .i64 floor, .bool sw, .map (some mb)] 144 (0, 0))) (hC : CatAt W cb ob A c l) (hr : Rising l) (hsz : l.length < 4611686018427387904) (hok : p.ok) (hh : 0 ≤ hour ∧ hour ≤ 1099511627776) (hM : JobsAt W mb n M) (hn : n + 1 < maxLen)
    (hx : in64 x.f0.f0 ∧ in64 x.f0.f1) (hHr : Hrs W Ac cnt) (hnc : nc = cnt.length) :
    Calls Tryz.prog 71 #[.pointer (some ⟨gb, 0, none⟩), .agg #[.int .i64 x.f0.f0, .int .i64 x.f0.f1, .int .i64 x.f1, .int .i64 x.f2, .int .i64 x.f3, .bool x.f4], .slice Ac nc cc] W fun e w' =>
      (∃ v, e = .returned v) ∧ JobsAt w' mb (n + 2) (fun z => entJ l p hour floor cnt x z ∨ M z) ∧ W.grownBy w' (some mb) := by
  have HM := Aside0.mk hM
  have HN := Aside0.mk (show n < maxLen by omega)
  have HN2 := Aside0.mk hn
  have HG := Aside0.mk hg
  have HC := Aside0.mk hC
  have HR := Aside0.mk hr
  have HOK := Aside0.mk hok
  have HH := Aside0.mk hh
  have HHR := Aside0.mk hHr
  have HNC := Aside0.mk hnc
  have HJ1 := Aside0.mk (show (Job.mk 1 x.f0.f0 x.f0.f1).wf from ⟨by show in64 1; unfold in64; omega, hx.1, hx.2⟩)
  have HJ3 := Aside0.mk (show (Job.mk 3 x.f0.f0 x.f0.f1).wf from ⟨by show in64 3; unfold in64; omega, hx.1, hx.2⟩)
  have pf : W.cell? ⟨gb, 12, none⟩ = some (.int .i64 floor) := (blk_cell hg 12).trans rfl
  have PF := Aside0.mk pf
  have r1 : wrap64 (hour - p.r4) = hour - p.r4 := by
    unfold Pol.ok at hok
    exact wr (by omega) (by omega)
  have HB := Aside0.mk (Below.refl W.heap.size W)
  clear hM hn hg hC hr hok hh hHr hnc hx
  by_cases hgone : (endP x.f0.f0 x.f0.f1) ≤ floor
  case pos =>
    have HE := Aside0.mk (show ∀ z, entJ l p hour floor cnt x z ↔ z = ⟨1, x.f0.f0, x.f0.f1⟩ from fun z => by rw [entJ, if_pos hgone])
    go_enter Tryz.func71, Tryz.ntmps71
    go_upto_region 2 with (first
      | ((with_reducible refine gate_dst (N := 4) rfl ?_); refine box_event ?hg (N := 4) ?hd (cs := #[.int .i64 x.f0.f0, .int .i64 x.f0.f1, .int .i64 x.f1, .int .i64 x.f2, .int .i64 x.f3, .bool x.f4]) (t := 43) ?hr ?_; (case hd => rfl); (case hg => rfl); (case hr => first | (go_simp; done) | (go_simp; rfl)); intro b4 hb4 w1 Kb4 hb_; have Gb4 := Aside0.mk (by rw [hb4]; exact HB.out.size : W.heap.size ≤ b4); replace HB := Aside0.mk (below_step HB.out hb_); clear hb4; replace pf := pw_cell_below hb_ pf; clear hb_; have cb4_0 := blk_cell Kb4 0; have cb4_1 := blk_cell Kb4 1; have cb4_2 := blk_cell Kb4 2; have cb4_3 := blk_cell Kb4 3; have cb4_4 := blk_cell Kb4 4; have cb4_5 := blk_cell Kb4 5; simp only [List.getElem?_toArray, List.getElem?_cons_zero, List.getElem?_cons_succ] at cb4_0 cb4_1 cb4_2 cb4_3 cb4_4 cb4_5; replace Kb4 := Aside0.mk Kb4)
      | (go_at_call 39; refine (span_calls _ _ _).mono ?_; rintro e w2 ⟨rfl, hb_⟩; replace HB := Aside0.mk (below_step HB.out hb_); replace cb4_0 := pw_cell_below hb_ cb4_0; replace cb4_1 := pw_cell_below hb_ cb4_1; replace cb4_2 := pw_cell_below hb_ cb4_2; replace cb4_3 := pw_cell_below hb_ cb4_3; replace cb4_4 := pw_cell_below hb_ cb4_4; replace cb4_5 := pw_cell_below hb_ cb4_5; replace Kb4 := Aside0.mk ((hb_.block _ (blk_lt Kb4.out)).trans Kb4.out); replace pf := pw_cell_below hb_ pf; clear hb_)
      | ((with_reducible refine gate_dst (N := 6) rfl ?_); refine box_event ?hg (N := 6) ?hd (cs := #[.int .i64 0]) (t := 2) ?hr ?_; (case hd => rfl); (case hg => rfl); (case hr => first | (go_simp; done) | (go_simp; rfl)); intro b6 hb6 w3 Kb6 hb_; have Gb6 := Aside0.mk (by rw [hb6]; exact HB.out.size : W.heap.size ≤ b6); have Nb4_b6 := Aside0.mk (fun e => by have := blk_lt Kb4.out; omega : b4 ≠ b6); replace HB := Aside0.mk (below_step HB.out hb_); clear hb6; replace cb4_0 := pw_cell_below hb_ cb4_0; replace cb4_1 := pw_cell_below hb_ cb4_1; replace cb4_2 := pw_cell_below hb_ cb4_2; replace cb4_3 := pw_cell_below hb_ cb4_3; replace cb4_4 := pw_cell_below hb_ cb4_4; replace cb4_5 := pw_cell_below hb_ cb4_5; replace Kb4 := Aside0.mk ((hb_.block _ (blk_lt Kb4.out)).trans Kb4.out); replace pf := pw_cell_below hb_ pf; clear hb_; replace Kb6 := Aside0.mk Kb6)
      | ((with_reducible refine gate_dst (N := 7) rfl ?_); refine box_event ?hg (N := 7) ?hd (cs := #[.int .i64 0]) (t := 2) ?hr ?_; (case hd => rfl); (case hg => rfl); (case hr => first | (go_simp; done) | (go_simp; rfl)); intro b7 hb7 w4 Kb7 hb_; have Gb7 := Aside0.mk (by rw [hb7]; exact HB.out.size : W.heap.size ≤ b7); have Nb4_b7 := Aside0.mk (fun e => by have := blk_lt Kb4.out; omega : b4 ≠ b7); have Nb6_b7 := Aside0.mk (fun e => by have := blk_lt Kb6.out; omega : b6 ≠ b7); replace HB := Aside0.mk (below_step HB.out hb_); clear hb7; replace cb4_0 := pw_cell_below hb_ cb4_0; replace cb4_1 := pw_cell_below hb_ cb4_1; replace cb4_2 := pw_cell_below hb_ cb4_2; replace cb4_3 := pw_cell_below hb_ cb4_3; replace cb4_4 := pw_cell_below hb_ cb4_4; replace cb4_5 := pw_cell_below hb_ cb4_5; replace Kb4 := Aside0.mk ((hb_.block _ (blk_lt Kb4.out)).trans Kb4.out); replace Kb6 := Aside0.mk ((hb_.block _ (blk_lt Kb6.out)).trans Kb6.out); replace pf := pw_cell_below hb_ pf; clear hb_; replace Kb7 := Aside0.mk Kb7)
      | (refine store_one rfl 2 (.tmp 6) (.tmp 13) rfl rfl b6 (.int .i64 (fromP x.f0.f0 x.f0.f1)) 2 _ rfl rfl Kb6.out size2 (by simp [Value.oneCell']) ?_; intro w5 k_ g_; replace HB := Aside0.mk (HB.out.grown g_ HB.out.size (fun r e => by cases e; exact Gb6.out)); replace Kb4 := Aside0.mk (blk_grown Kb4.out g_ (fun e => by cases e; exact Nb4_b6.out rfl)); replace Kb7 := Aside0.mk (blk_grown Kb7.out g_ (fun e => by cases e; exact Nb6_b7.out rfl)); clear Kb6; have Kb6 := Aside0.mk k_; clear k_ g_; clear cb4_0 cb4_1 cb4_2 cb4_3 cb4_4 cb4_5)
      | (refine store_one rfl 2 (.tmp 7) (.tmp 14) rfl rfl b7 (.int .i64 (endP x.f0.f0 x.f0.f1)) 2 _ rfl rfl Kb7.out size2 (by simp [Value.oneCell']) ?_; intro w6 k_ g_; replace HB := Aside0.mk (HB.out.grown g_ HB.out.size (fun r e => by cases e; exact Gb7.out)); replace Kb4 := Aside0.mk (blk_grown Kb4.out g_ (fun e => by cases e; exact Nb4_b7.out rfl)); replace Kb6 := Aside0.mk (blk_grown Kb6.out g_ (fun e => by cases e; exact Nb6_b7.out rfl)); clear Kb7; have Kb7 := Aside0.mk k_; clear k_ g_; have cb4_0 := blk_cell Kb4.out 0; have cb4_1 := blk_cell Kb4.out 1; have cb4_2 := blk_cell Kb4.out 2; have cb4_3 := blk_cell Kb4.out 3; have cb4_4 := blk_cell Kb4.out 4; have cb4_5 := blk_cell Kb4.out 5; have cb6_0 := blk_cell Kb6.out 0; have cb7_0 := blk_cell Kb7.out 0; simp only [List.getElem?_toArray, List.getElem?_cons_zero, List.getElem?_cons_succ] at cb4_0 cb4_1 cb4_2 cb4_3 cb4_4 cb4_5 cb6_0 cb7_0; replace pf := pw_cell_below HB.out PF.out)
      | fail)
    go_quiet (fail)
    have hq_ : Below w6.heap.size w6 (w6.drewN nq) := pw_below_drewN (Below.refl _ _) nq
    replace HB := Aside0.mk (pw_below_drewN HB.out nq)
    replace Kb4 := Aside0.mk ((hq_.block _ (blk_lt Kb4.out)).trans Kb4.out)
    replace Kb6 := Aside0.mk ((hq_.block _ (blk_lt Kb6.out)).trans Kb6.out)
    replace Kb7 := Aside0.mk ((hq_.block _ (blk_lt Kb7.out)).trans Kb7.out)
    clear cb4_0 cb4_1 cb4_2 cb4_3 cb4_4 cb4_5 cb6_0 cb7_0 pf
    clear hq_
    generalize w6.drewN nq = w7 at *
    have cb4_0 := blk_cell Kb4.out 0; have cb4_1 := blk_cell Kb4.out 1; have cb4_2 := blk_cell Kb4.out 2; have cb4_3 := blk_cell Kb4.out 3; have cb4_4 := blk_cell Kb4.out 4; have cb4_5 := blk_cell Kb4.out 5; simp only [List.getElem?_toArray, List.getElem?_cons_zero, List.getElem?_cons_succ] at cb4_0 cb4_1 cb4_2 cb4_3 cb4_4 cb4_5
    have cb6_0 := blk_cell Kb6.out 0; simp only [List.getElem?_toArray, List.getElem?_cons_zero, List.getElem?_cons_succ] at cb6_0
    have cb7_0 := blk_cell Kb7.out 0; simp only [List.getElem?_toArray, List.getElem?_cons_zero, List.getElem?_cons_succ] at cb7_0
    go_wp2_with (first
      | (go_at_call 73; refine (gput_calls _ gb cb Ah nh ch p hour floor sw mb n M 1 x.f0.f0 x.f0.f1 ((HB.out.block _ (blk_lt HG.out)).trans HG.out) (HM.out.below HB.out) HN.out HJ1.out).mono ?_; rintro e w8 ⟨⟨vv, rfl⟩, hM4, hg4⟩; have H4 := Aside0.mk hM4; have G4 := Aside0.mk ((grown_of_below HB.out (some mb)).trans hg4); clear hM4 hg4)
      | fail)
    first | go_end0 | ((try simp only [Exit.inBlock, Exit.then]); refine bodyPost_ret (results_none rfl _ _ _) rfl ?_)
    exact ⟨⟨_, rfl⟩, H4.out.weaken (by omega) (fun z => or_congr_left (HE.out z)), G4.out⟩
  case neg =>
    have HE := Aside0.mk (show ∀ z, entJ l p hour floor cnt x z ↔ (tgtB l p hour (fromP x.f0.f0 x.f0.f1) = true ∧ x.f0.f0 < tgtT l p hour (fromP x.f0.f0 x.f0.f1) ∧ z = ⟨2, tgtT l p hour (fromP x.f0.f0 x.f0.f1), tgtI l p hour (fromP x.f0.f0 x.f0.f1)⟩) ∨ (offB p hour cnt x = true ∧ z = ⟨3, x.f0.f0, x.f0.f1⟩) from fun z => by rw [entJ, if_neg hgone])
    go_enter Tryz.func71, Tryz.ntmps71
    go_upto_region 2 with (first
      | ((with_reducible refine gate_dst (N := 4) rfl ?_); refine box_event ?hg (N := 4) ?hd (cs := #[.int .i64 x.f0.f0, .int .i64 x.f0.f1, .int .i64 x.f1, .int .i64 x.f2, .int .i64 x.f3, .bool x.f4]) (t := 43) ?hr ?_; (case hd => rfl); (case hg => rfl); (case hr => first | (go_simp; done) | (go_simp; rfl)); intro b4 hb4 w1 Kb4 hb_; have Gb4 := Aside0.mk (by rw [hb4]; exact HB.out.size : W.heap.size ≤ b4); replace HB := Aside0.mk (below_step HB.out hb_); clear hb4; replace pf := pw_cell_below hb_ pf; clear hb_; have cb4_0 := blk_cell Kb4 0; have cb4_1 := blk_cell Kb4 1; have cb4_2 := blk_cell Kb4 2; have cb4_3 := blk_cell Kb4 3; have cb4_4 := blk_cell Kb4 4; have cb4_5 := blk_cell Kb4 5; simp only [List.getElem?_toArray, List.getElem?_cons_zero, List.getElem?_cons_succ] at cb4_0 cb4_1 cb4_2 cb4_3 cb4_4 cb4_5; replace Kb4 := Aside0.mk Kb4)
      | (go_at_call 39; refine (span_calls _ _ _).mono ?_; rintro e w2 ⟨rfl, hb_⟩; replace HB := Aside0.mk (below_step HB.out hb_); replace cb4_0 := pw_cell_below hb_ cb4_0; replace cb4_1 := pw_cell_below hb_ cb4_1; replace cb4_2 := pw_cell_below hb_ cb4_2; replace cb4_3 := pw_cell_below hb_ cb4_3; replace cb4_4 := pw_cell_below hb_ cb4_4; replace cb4_5 := pw_cell_below hb_ cb4_5; replace Kb4 := Aside0.mk ((hb_.block _ (blk_lt Kb4.out)).trans Kb4.out); replace pf := pw_cell_below hb_ pf; clear hb_)
      | ((with_reducible refine gate_dst (N := 6) rfl ?_); refine box_event ?hg (N := 6) ?hd (cs := #[.int .i64 0]) (t := 2) ?hr ?_; (case hd => rfl); (case hg => rfl); (case hr => first | (go_simp; done) | (go_simp; rfl)); intro b6 hb6 w3 Kb6 hb_; have Gb6 := Aside0.mk (by rw [hb6]; exact HB.out.size : W.heap.size ≤ b6); have Nb4_b6 := Aside0.mk (fun e => by have := blk_lt Kb4.out; omega : b4 ≠ b6); replace HB := Aside0.mk (below_step HB.out hb_); clear hb6; replace cb4_0 := pw_cell_below hb_ cb4_0; replace cb4_1 := pw_cell_below hb_ cb4_1; replace cb4_2 := pw_cell_below hb_ cb4_2; replace cb4_3 := pw_cell_below hb_ cb4_3; replace cb4_4 := pw_cell_below hb_ cb4_4; replace cb4_5 := pw_cell_below hb_ cb4_5; replace Kb4 := Aside0.mk ((hb_.block _ (blk_lt Kb4.out)).trans Kb4.out); replace pf := pw_cell_below hb_ pf; clear hb_; replace Kb6 := Aside0.mk Kb6)
      | ((with_reducible refine gate_dst (N := 7) rfl ?_); refine box_event ?hg (N := 7) ?hd (cs := #[.int .i64 0]) (t := 2) ?hr ?_; (case hd => rfl); (case hg => rfl); (case hr => first | (go_simp; done) | (go_simp; rfl)); intro b7 hb7 w4 Kb7 hb_; have Gb7 := Aside0.mk (by rw [hb7]; exact HB.out.size : W.heap.size ≤ b7); have Nb4_b7 := Aside0.mk (fun e => by have := blk_lt Kb4.out; omega : b4 ≠ b7); have Nb6_b7 := Aside0.mk (fun e => by have := blk_lt Kb6.out; omega : b6 ≠ b7); replace HB := Aside0.mk (below_step HB.out hb_); clear hb7; replace cb4_0 := pw_cell_below hb_ cb4_0; replace cb4_1 := pw_cell_below hb_ cb4_1; replace cb4_2 := pw_cell_below hb_ cb4_2; replace cb4_3 := pw_cell_below hb_ cb4_3; replace cb4_4 := pw_cell_below hb_ cb4_4; replace cb4_5 := pw_cell_below hb_ cb4_5; replace Kb4 := Aside0.mk ((hb_.block _ (blk_lt Kb4.out)).trans Kb4.out); replace Kb6 := Aside0.mk ((hb_.block _ (blk_lt Kb6.out)).trans Kb6.out); replace pf := pw_cell_below hb_ pf; clear hb_; replace Kb7 := Aside0.mk Kb7)
      | (refine store_one rfl 2 (.tmp 6) (.tmp 13) rfl rfl b6 (.int .i64 (fromP x.f0.f0 x.f0.f1)) 2 _ rfl rfl Kb6.out size2 (by simp [Value.oneCell']) ?_; intro w5 k_ g_; replace HB := Aside0.mk (HB.out.grown g_ HB.out.size (fun r e => by cases e; exact Gb6.out)); replace Kb4 := Aside0.mk (blk_grown Kb4.out g_ (fun e => by cases e; exact Nb4_b6.out rfl)); replace Kb7 := Aside0.mk (blk_grown Kb7.out g_ (fun e => by cases e; exact Nb6_b7.out rfl)); clear Kb6; have Kb6 := Aside0.mk k_; clear k_ g_; clear cb4_0 cb4_1 cb4_2 cb4_3 cb4_4 cb4_5)
      | (refine store_one rfl 2 (.tmp 7) (.tmp 14) rfl rfl b7 (.int .i64 (endP x.f0.f0 x.f0.f1)) 2 _ rfl rfl Kb7.out size2 (by simp [Value.oneCell']) ?_; intro w6 k_ g_; replace HB := Aside0.mk (HB.out.grown g_ HB.out.size (fun r e => by cases e; exact Gb7.out)); replace Kb4 := Aside0.mk (blk_grown Kb4.out g_ (fun e => by cases e; exact Nb4_b7.out rfl)); replace Kb6 := Aside0.mk (blk_grown Kb6.out g_ (fun e => by cases e; exact Nb6_b7.out rfl)); clear Kb7; have Kb7 := Aside0.mk k_; clear k_ g_; have cb4_0 := blk_cell Kb4.out 0; have cb4_1 := blk_cell Kb4.out 1; have cb4_2 := blk_cell Kb4.out 2; have cb4_3 := blk_cell Kb4.out 3; have cb4_4 := blk_cell Kb4.out 4; have cb4_5 := blk_cell Kb4.out 5; have cb6_0 := blk_cell Kb6.out 0; have cb7_0 := blk_cell Kb7.out 0; simp only [List.getElem?_toArray, List.getElem?_cons_zero, List.getElem?_cons_succ] at cb4_0 cb4_1 cb4_2 cb4_3 cb4_4 cb4_5 cb6_0 cb7_0; replace pf := pw_cell_below HB.out PF.out)
      | fail)
    go_quiet (fail)
    have hq_ : Below w6.heap.size w6 (w6.drewN nq) := pw_below_drewN (Below.refl _ _) nq
    replace HB := Aside0.mk (pw_below_drewN HB.out nq)
    replace Kb4 := Aside0.mk ((hq_.block _ (blk_lt Kb4.out)).trans Kb4.out)
    replace Kb6 := Aside0.mk ((hq_.block _ (blk_lt Kb6.out)).trans Kb6.out)
    replace Kb7 := Aside0.mk ((hq_.block _ (blk_lt Kb7.out)).trans Kb7.out)
    clear cb4_0 cb4_1 cb4_2 cb4_3 cb4_4 cb4_5 cb6_0 cb7_0 pf
    clear hq_
    generalize w6.drewN nq = w7 at *
    have cb4_0 := blk_cell Kb4.out 0; have cb4_1 := blk_cell Kb4.out 1; have cb4_2 := blk_cell Kb4.out 2; have cb4_3 := blk_cell Kb4.out 3; have cb4_4 := blk_cell Kb4.out 4; have cb4_5 := blk_cell Kb4.out 5; simp only [List.getElem?_toArray, List.getElem?_cons_zero, List.getElem?_cons_succ] at cb4_0 cb4_1 cb4_2 cb4_3 cb4_4 cb4_5
    have cb6_0 := blk_cell Kb6.out 0; simp only [List.getElem?_toArray, List.getElem?_cons_zero, List.getElem?_cons_succ] at cb6_0
    have cb7_0 := blk_cell Kb7.out 0; simp only [List.getElem?_toArray, List.getElem?_cons_zero, List.getElem?_cons_succ] at cb7_0
    go_upto_region 6 with (first
      | (go_at_call 72; refine (gbuild_calls _ gb cb ob A c l Ah nh ch p hour floor sw mb n M (fromP x.f0.f0 x.f0.f1) x.f0.f0 ((HB.out.block _ (blk_lt HG.out)).trans HG.out) (HC.out.below HB.out) HR.out hsz HOK.out HH.out (HM.out.below HB.out) HN.out).mono ?_; rintro e w8 ⟨⟨vv, rfl⟩, hM4, hg4⟩; have HM2 := Aside0.mk hM4; have KO := Aside0.mk hg4; have HGW := Aside0.mk ((grown_of_below HB.out (some mb)).trans hg4); have HHR2 := Aside0.mk ((HHR.out.below HB.out).grown hg4 (fun k e => by cases e; exact map_obj (HM.out.below HB.out))); replace Kb4 := Aside0.mk (blk_grown Kb4.out hg4 (fun e => by cases e; have := HM.out.lt; have := Gb4.out; omega)); replace Kb6 := Aside0.mk (blk_grown Kb6.out hg4 (fun e => by cases e; have := HM.out.lt; have := Gb6.out; omega)); replace Kb7 := Aside0.mk (blk_grown Kb7.out hg4 (fun e => by cases e; have := HM.out.lt; have := Gb7.out; omega)); have HG2 := Aside0.mk (blk_grown ((HB.out.block _ (blk_lt HG.out)).trans HG.out) hg4 (fun e => by cases e; obtain ⟨o, ho, hcl⟩ := map_obj HM.out; have := HG.out; rw [ho] at this; cases this; cases hcl)); clear cb4_0 cb4_1 cb4_2 cb4_3 cb4_4 cb4_5 cb6_0 cb7_0 HB hM4 hg4; have cb4_0 := blk_cell Kb4.out 0; have cb4_1 := blk_cell Kb4.out 1; have cb4_2 := blk_cell Kb4.out 2; have cb4_3 := blk_cell Kb4.out 3; have cb4_4 := blk_cell Kb4.out 4; have cb4_5 := blk_cell Kb4.out 5; have cb6_0 := blk_cell Kb6.out 0; have cb7_0 := blk_cell Kb7.out 0; simp only [List.getElem?_toArray, List.getElem?_cons_zero, List.getElem?_cons_succ] at cb4_0 cb4_1 cb4_2 cb4_3 cb4_4 cb4_5 cb6_0 cb7_0; have pf := (blk_cell HG2.out 12).trans (show #[_, _, _, _, _, _, _, _, _, _, _, _, _, _, _][12]? = some _ from rfl); have ph := (blk_cell HG2.out 11).trans (show #[_, _, _, _, _, _, _, _, _, _, _, _, _, _, _][11]? = some _ from rfl); have pl := (blk_cell HG2.out 6).trans (show #[_, _, _, _, _, _, _, _, _, _, _, _, _, _, _][6]? = some _ from rfl); have HB := Aside0.mk (Below.refl w8.heap.size w8))
      | (go_at_call 114; refine (contains_calls _ Ac nc cc cnt (fromP x.f0.f0 x.f0.f1) (endP x.f0.f0 x.f0.f1) b6 b7 (HHR2.out.below HB.out) HNC.out cb6_0 cb7_0).mono ?_; rintro e w9 ⟨rfl, hb_⟩; replace HB := Aside0.mk (below_step HB.out hb_); replace cb4_0 := pw_cell_below hb_ cb4_0; replace cb4_1 := pw_cell_below hb_ cb4_1; replace cb4_2 := pw_cell_below hb_ cb4_2; replace cb4_3 := pw_cell_below hb_ cb4_3; replace cb4_4 := pw_cell_below hb_ cb4_4; replace cb4_5 := pw_cell_below hb_ cb4_5; replace cb6_0 := pw_cell_below hb_ cb6_0; replace cb7_0 := pw_cell_below hb_ cb7_0; replace pf := pw_cell_below hb_ pf; replace ph := pw_cell_below hb_ ph; replace pl := pw_cell_below hb_ pl; replace Kb4 := Aside0.mk ((hb_.block _ (blk_lt Kb4.out)).trans Kb4.out); clear hb_)
      | fail)
    have HP := Aside0.mk (Eq.refl (cnt.any fun h => decide ((fromP x.f0.f0 x.f0.f1) ≤ h) && decide (h < (endP x.f0.f0 x.f0.f1))))
    by_cases h3 : x.f0.f0 = 3
    case neg =>
      have HO := Aside0.mk (show offB p hour cnt x = false by rw [offB, decide_eq_false h3]; rfl)
      have h3b : (x.f0.f0 == 3) = false := by simpa using h3
      go_quiet (fail)
      go_wp2
      first | go_end0 | ((try simp only [Exit.inBlock, Exit.then]); refine bodyPost_ret (results_none rfl _ _ _) rfl ?_)
      have HM9 := HM2.out.below (pw_below_drewN HB.out nq)
      exact ⟨⟨_, rfl⟩, HM9.weaken (by omega) (fun z => by rw [HE.out z, HO.out]; simp), HGW.out.trans (grown_of_below (pw_below_drewN HB.out nq) (some mb))⟩
    case pos =>
      have H3 := Aside0.mk h3
      have h3b : (x.f0.f0 == 3) = true := by simpa using h3
      clear h3
      cases hc : x.f4
      case true =>
        have HO := Aside0.mk (show offB p hour cnt x = false by rw [offB, decide_eq_true H3.out, hc]; rfl)
        go_quiet (fail)
        go_wp2
        first | go_end0 | ((try simp only [Exit.inBlock, Exit.then]); refine bodyPost_ret (results_none rfl _ _ _) rfl ?_)
        have HM9 := HM2.out.below (pw_below_drewN HB.out nq)
        exact ⟨⟨_, rfl⟩, HM9.weaken (by omega) (fun z => by rw [HE.out z, HO.out]; simp), HGW.out.trans (grown_of_below (pw_below_drewN HB.out nq) (some mb))⟩
      case false =>
        by_cases hd : (endP x.f0.f0 x.f0.f1) ≤ hour - p.r4
        case neg =>
          have HO := Aside0.mk (show offB p hour cnt x = false by rw [offB, decide_eq_true H3.out, hc, decide_eq_false hd]; rfl)
          go_quiet (fail)
          go_wp2
          first | go_end0 | ((try simp only [Exit.inBlock, Exit.then]); refine bodyPost_ret (results_none rfl _ _ _) rfl ?_)
          have HM9 := HM2.out.below (pw_below_drewN HB.out nq)
          exact ⟨⟨_, rfl⟩, HM9.weaken (by omega) (fun z => by rw [HE.out z, HO.out]; simp), HGW.out.trans (grown_of_below (pw_below_drewN HB.out nq) (some mb))⟩
        case pos =>
          cases hany : (cnt.any fun h => decide ((fromP x.f0.f0 x.f0.f1) ≤ h) && decide (h < (endP x.f0.f0 x.f0.f1)))
          case true =>
            have HO := Aside0.mk (show offB p hour cnt x = false by rw [offB, decide_eq_true H3.out, hc, decide_eq_true hd, hany]; rfl)
            go_quiet (fail)
            go_wp2
            first | go_end0 | ((try simp only [Exit.inBlock, Exit.then]); refine bodyPost_ret (results_none rfl _ _ _) rfl ?_)
            have HM9 := HM2.out.below (pw_below_drewN HB.out nq)
            exact ⟨⟨_, rfl⟩, HM9.weaken (by omega) (fun z => by rw [HE.out z, HO.out]; simp), HGW.out.trans (grown_of_below (pw_below_drewN HB.out nq) (some mb))⟩
          case false =>
            have HO := Aside0.mk (show offB p hour cnt x = true by rw [offB, decide_eq_true H3.out, hc, decide_eq_true hd, hany]; rfl)
            go_quiet (fail)
            have hq_ : Below w9.heap.size w9 (w9.drewN nq) := pw_below_drewN (Below.refl _ _) nq
            replace HB := Aside0.mk (pw_below_drewN HB.out nq)
            replace Kb4 := Aside0.mk ((hq_.block _ (blk_lt Kb4.out)).trans Kb4.out)
            clear cb4_0 cb4_1 cb4_2 cb4_3 cb4_4 cb4_5 cb6_0 cb7_0 pf ph pl
            clear hq_
            generalize w9.drewN nq = w10 at *
            have cb4_0 := blk_cell Kb4.out 0; have cb4_1 := blk_cell Kb4.out 1; have cb4_2 := blk_cell Kb4.out 2; have cb4_3 := blk_cell Kb4.out 3; have cb4_4 := blk_cell Kb4.out 4; have cb4_5 := blk_cell Kb4.out 5; simp only [List.getElem?_toArray, List.getElem?_cons_zero, List.getElem?_cons_succ] at cb4_0 cb4_1 cb4_2 cb4_3 cb4_4 cb4_5
            go_wp2_with (first
      | (go_at_call 73; refine (gput_calls _ gb cb Ah nh ch p hour floor sw mb (n + 1) (fun z => (tgtB l p hour (fromP x.f0.f0 x.f0.f1) = true ∧ x.f0.f0 < tgtT l p hour (fromP x.f0.f0 x.f0.f1) ∧ z = ⟨2, tgtT l p hour (fromP x.f0.f0 x.f0.f1), tgtI l p hour (fromP x.f0.f0 x.f0.f1)⟩) ∨ M z) 3 x.f0.f0 x.f0.f1 ((HB.out.block _ (blk_lt HG2.out)).trans HG2.out) (HM2.out.below HB.out) HN2.out HJ3.out).mono ?_; rintro e w11 ⟨⟨vv, rfl⟩, hM4, hg4⟩; have H4 := Aside0.mk hM4; have G4 := Aside0.mk ((HGW.out.trans (grown_of_below HB.out (some mb))).trans hg4); clear hM4 hg4)
      | fail)
            first | go_end0 | ((try simp only [Exit.inBlock, Exit.then]); refine bodyPost_ret (results_none rfl _ _ _) rfl ?_)
            exact ⟨⟨_, rfl⟩, H4.out.weaken (by omega) (fun z => by rw [HE.out z, HO.out]; simp only [true_and]; exact ⟨fun h => h.elim (fun h => h.elim (fun h => .inr (.inl h)) .inl) (fun h => .inr (.inr h)), fun h => h.elim (fun h => .inl (.inr h)) (fun h => h.elim (fun h => .inl (.inl h)) .inr)⟩), G4.out⟩
end Go.Proofs.YthhmfeiefbnhcaaGreat.Due
