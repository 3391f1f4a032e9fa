/-
  Part 6 of the proof: DHas DCat0 DIn DOver DCat1 DCat2 DCat3 DPol DLawC DLawR.
-/
import Derived.Sort.CutIn
import Derived.Scope
import Derived.LoopN
import Derived.Test.YthhmfeiefbnhcaaGreatDP5
namespace Go.Proofs.YthhmfeiefbnhcaaGreat.Due
open Go.RowKit Go.Proofs.YthhmfeiefbnhcaaGreat.PDueParts Go.Proofs.YthhmfeiefbnhcaaGreatW.PrintWords Go.Proofs.YthhmfeiefbnhcaaGreatW.PrintLast
set_option linter.unusedVariables false
set_option linter.unusedSimpArgs false
theorem size38 : (Tryz.prog.info? 38).map (·.size) = some 2 := by kernel_rfl
def hasP (t i h : Int) : Bool := if (okH h && okT t) = true then decide (idx t h = i) else decide (fromP t i ≤ h) && decide (h < endP t i)
set_option maxRecDepth 100000 in
set_option maxHeartbeats 2000000 in
theorem has_calls (W : World) (t i x : Int) : Calls Tryz.prog 13 #[.agg #[.int .i64 t, .int .i64 i], .int .i64 x] W fun e w' =>
    e = .returned (.bool (hasP t i x)) ∧ Below W.heap.size W w' := by
  have HB := Aside0.mk (Below.refl W.heap.size W)
  cases c : (okH x && okT t)
  case false =>
    have HC := Aside0.mk c
    clear c
    go_enter Tryz.func13, Tryz.ntmps13
    by_cases d : fromP t i ≤ x
    · go_wp2_with (first
      | ((with_reducible refine gate_dst (N := 2) rfl ?_); refine box_event ?hg (N := 2) ?hd (cs := #[.int .i64 t, .int .i64 i]) (t := 38) ?hr ?_; (case hd => rfl); (case hg => rfl); (case hr => first | (go_simp; done) | (go_simp; rfl)); intro b2 hb2 w1 Kb2 hb_; have Gb2 := Aside0.mk (by rw [hb2]; exact HB.out.size : W.heap.size ≤ b2); replace HB := Aside0.mk (below_step HB.out hb_); clear hb2; clear hb_; have cb2_0 := blk_cell Kb2 0; have cb2_1 := blk_cell Kb2 1; simp only [List.getElem?_toArray, List.getElem?_cons_zero, List.getElem?_cons_succ] at cb2_0 cb2_1; replace Kb2 := Aside0.mk Kb2)
      | ((with_reducible refine gate_dst (N := 5) rfl ?_); refine box_event ?hg (N := 5) ?hd (cs := #[.int .i64 0, .int .i64 0]) (t := 38) ?hr ?_; (case hd => rfl); (case hg => rfl); (case hr => first | (go_simp; done) | (go_simp; rfl)); intro b5 hb5 w3 Kb5 hb_; have Gb5 := Aside0.mk (by rw [hb5]; exact HB.out.size : W.heap.size ≤ b5); have Nb2_b5 := Aside0.mk (fun e => by have := blk_lt Kb2.out; omega : b2 ≠ b5); replace HB := Aside0.mk (below_step HB.out hb_); clear hb5; replace cb2_0 := pw_cell_below hb_ cb2_0; replace cb2_1 := pw_cell_below hb_ cb2_1; replace Kb2 := Aside0.mk ((hb_.block _ (blk_lt Kb2.out)).trans Kb2.out); clear hb_; replace Kb5 := Aside0.mk Kb5)
      | (refine store_agg rfl 38 (.tmp 5) (.tmp 14) rfl rfl b5 #[.int .i64 (ofT t x), .int .i64 (ofI t x)] 38 _ rfl rfl Kb5.out size38 rfl (by simp [Value.oneCell']) ?_; intro w4 k_ g_; replace HB := Aside0.mk (HB.out.grown g_ HB.out.size (fun r e => by cases e; exact Gb5.out)); replace Kb2 := Aside0.mk (blk_grown Kb2.out g_ (fun e => by cases e; exact Nb2_b5.out rfl)); clear Kb5; have Kb5 := Aside0.mk k_; clear k_ g_; clear cb2_0; clear cb2_1; have cb2_0 := blk_cell Kb2.out 0; have cb2_1 := blk_cell Kb2.out 1; have cb5_0 := blk_cell Kb5.out 0; have cb5_1 := blk_cell Kb5.out 1; simp only [List.getElem?_toArray, List.getElem?_cons_zero, List.getElem?_cons_succ] at cb2_0 cb2_1 cb5_0 cb5_1)
      | (go_at_call 36; refine (of_calls _ _ _).mono ?_; rintro e w2 ⟨rfl, hb_⟩; replace HB := Aside0.mk (below_step HB.out hb_); replace cb2_0 := pw_cell_below hb_ cb2_0; replace cb2_1 := pw_cell_below hb_ cb2_1; replace Kb2 := Aside0.mk ((hb_.block _ (blk_lt Kb2.out)).trans Kb2.out); clear hb_; rw [HC.out])
      | (go_at_call 39; refine (span_calls _ _ _).mono ?_; rintro e w5 ⟨rfl, hb_⟩; replace HB := Aside0.mk (below_step HB.out hb_); replace cb2_0 := pw_cell_below hb_ cb2_0; replace cb2_1 := pw_cell_below hb_ cb2_1; replace Kb2 := Aside0.mk ((hb_.block _ (blk_lt Kb2.out)).trans Kb2.out); clear hb_)
      | fail)
      go_ret
      exact ⟨by rw [hasP, HC.out, if_neg (by decide), decide_eq_true d, Bool.true_and]; rfl, HB.out⟩
    · go_wp2_with (first
      | ((with_reducible refine gate_dst (N := 2) rfl ?_); refine box_event ?hg (N := 2) ?hd (cs := #[.int .i64 t, .int .i64 i]) (t := 38) ?hr ?_; (case hd => rfl); (case hg => rfl); (case hr => first | (go_simp; done) | (go_simp; rfl)); intro b2 hb2 w1 Kb2 hb_; have Gb2 := Aside0.mk (by rw [hb2]; exact HB.out.size : W.heap.size ≤ b2); replace HB := Aside0.mk (below_step HB.out hb_); clear hb2; clear hb_; have cb2_0 := blk_cell Kb2 0; have cb2_1 := blk_cell Kb2 1; simp only [List.getElem?_toArray, List.getElem?_cons_zero, List.getElem?_cons_succ] at cb2_0 cb2_1; replace Kb2 := Aside0.mk Kb2)
      | ((with_reducible refine gate_dst (N := 5) rfl ?_); refine box_event ?hg (N := 5) ?hd (cs := #[.int .i64 0, .int .i64 0]) (t := 38) ?hr ?_; (case hd => rfl); (case hg => rfl); (case hr => first | (go_simp; done) | (go_simp; rfl)); intro b5 hb5 w3 Kb5 hb_; have Gb5 := Aside0.mk (by rw [hb5]; exact HB.out.size : W.heap.size ≤ b5); have Nb2_b5 := Aside0.mk (fun e => by have := blk_lt Kb2.out; omega : b2 ≠ b5); replace HB := Aside0.mk (below_step HB.out hb_); clear hb5; replace cb2_0 := pw_cell_below hb_ cb2_0; replace cb2_1 := pw_cell_below hb_ cb2_1; replace Kb2 := Aside0.mk ((hb_.block _ (blk_lt Kb2.out)).trans Kb2.out); clear hb_; replace Kb5 := Aside0.mk Kb5)
      | (refine store_agg rfl 38 (.tmp 5) (.tmp 14) rfl rfl b5 #[.int .i64 (ofT t x), .int .i64 (ofI t x)] 38 _ rfl rfl Kb5.out size38 rfl (by simp [Value.oneCell']) ?_; intro w4 k_ g_; replace HB := Aside0.mk (HB.out.grown g_ HB.out.size (fun r e => by cases e; exact Gb5.out)); replace Kb2 := Aside0.mk (blk_grown Kb2.out g_ (fun e => by cases e; exact Nb2_b5.out rfl)); clear Kb5; have Kb5 := Aside0.mk k_; clear k_ g_; clear cb2_0; clear cb2_1; have cb2_0 := blk_cell Kb2.out 0; have cb2_1 := blk_cell Kb2.out 1; have cb5_0 := blk_cell Kb5.out 0; have cb5_1 := blk_cell Kb5.out 1; simp only [List.getElem?_toArray, List.getElem?_cons_zero, List.getElem?_cons_succ] at cb2_0 cb2_1 cb5_0 cb5_1)
      | (go_at_call 36; refine (of_calls _ _ _).mono ?_; rintro e w2 ⟨rfl, hb_⟩; replace HB := Aside0.mk (below_step HB.out hb_); replace cb2_0 := pw_cell_below hb_ cb2_0; replace cb2_1 := pw_cell_below hb_ cb2_1; replace Kb2 := Aside0.mk ((hb_.block _ (blk_lt Kb2.out)).trans Kb2.out); clear hb_; rw [HC.out])
      | (go_at_call 39; refine (span_calls _ _ _).mono ?_; rintro e w5 ⟨rfl, hb_⟩; replace HB := Aside0.mk (below_step HB.out hb_); replace cb2_0 := pw_cell_below hb_ cb2_0; replace cb2_1 := pw_cell_below hb_ cb2_1; replace Kb2 := Aside0.mk ((hb_.block _ (blk_lt Kb2.out)).trans Kb2.out); clear hb_)
      | fail)
      go_ret
      exact ⟨by rw [hasP, HC.out, if_neg (by decide), decide_eq_false (by omega)]; rfl, HB.out⟩
  case true =>
    have HC := Aside0.mk c
    have HT := Aside0.mk (show ofT t x = t by rw [ofT, if_pos c])
    have HI := Aside0.mk (show ofI t x = idx t x by rw [ofI, if_pos c])
    clear c
    go_enter Tryz.func13, Tryz.ntmps13
    by_cases d : idx t x = i
    · have HD := Aside0.mk d
      clear d
      go_wp2_with (first
      | ((with_reducible refine gate_dst (N := 2) rfl ?_); refine box_event ?hg (N := 2) ?hd (cs := #[.int .i64 t, .int .i64 i]) (t := 38) ?hr ?_; (case hd => rfl); (case hg => rfl); (case hr => first | (go_simp; done) | (go_simp; rfl)); intro b2 hb2 w1 Kb2 hb_; have Gb2 := Aside0.mk (by rw [hb2]; exact HB.out.size : W.heap.size ≤ b2); replace HB := Aside0.mk (below_step HB.out hb_); clear hb2; clear hb_; have cb2_0 := blk_cell Kb2 0; have cb2_1 := blk_cell Kb2 1; simp only [List.getElem?_toArray, List.getElem?_cons_zero, List.getElem?_cons_succ] at cb2_0 cb2_1; replace Kb2 := Aside0.mk Kb2)
      | ((with_reducible refine gate_dst (N := 5) rfl ?_); refine box_event ?hg (N := 5) ?hd (cs := #[.int .i64 0, .int .i64 0]) (t := 38) ?hr ?_; (case hd => rfl); (case hg => rfl); (case hr => first | (go_simp; done) | (go_simp; rfl)); intro b5 hb5 w3 Kb5 hb_; have Gb5 := Aside0.mk (by rw [hb5]; exact HB.out.size : W.heap.size ≤ b5); have Nb2_b5 := Aside0.mk (fun e => by have := blk_lt Kb2.out; omega : b2 ≠ b5); replace HB := Aside0.mk (below_step HB.out hb_); clear hb5; replace cb2_0 := pw_cell_below hb_ cb2_0; replace cb2_1 := pw_cell_below hb_ cb2_1; replace Kb2 := Aside0.mk ((hb_.block _ (blk_lt Kb2.out)).trans Kb2.out); clear hb_; replace Kb5 := Aside0.mk Kb5)
      | (refine store_agg rfl 38 (.tmp 5) (.tmp 14) rfl rfl b5 #[.int .i64 t, .int .i64 i] 38 _ rfl rfl Kb5.out size38 rfl (by simp [Value.oneCell']) ?_; intro w4 k_ g_; replace HB := Aside0.mk (HB.out.grown g_ HB.out.size (fun r e => by cases e; exact Gb5.out)); replace Kb2 := Aside0.mk (blk_grown Kb2.out g_ (fun e => by cases e; exact Nb2_b5.out rfl)); clear Kb5; have Kb5 := Aside0.mk k_; clear k_ g_; clear cb2_0; clear cb2_1; have cb2_0 := blk_cell Kb2.out 0; have cb2_1 := blk_cell Kb2.out 1; have cb5_0 := blk_cell Kb5.out 0; have cb5_1 := blk_cell Kb5.out 1; simp only [List.getElem?_toArray, List.getElem?_cons_zero, List.getElem?_cons_succ] at cb2_0 cb2_1 cb5_0 cb5_1)
      | (go_at_call 36; refine (of_calls _ _ _).mono ?_; rintro e w2 ⟨rfl, hb_⟩; replace HB := Aside0.mk (below_step HB.out hb_); replace cb2_0 := pw_cell_below hb_ cb2_0; replace cb2_1 := pw_cell_below hb_ cb2_1; replace Kb2 := Aside0.mk ((hb_.block _ (blk_lt Kb2.out)).trans Kb2.out); clear hb_; rw [HC.out, HT.out, HI.out, HD.out])
      | (go_at_call 39; refine (span_calls _ _ _).mono ?_; rintro e w5 ⟨rfl, hb_⟩; replace HB := Aside0.mk (below_step HB.out hb_); replace cb2_0 := pw_cell_below hb_ cb2_0; replace cb2_1 := pw_cell_below hb_ cb2_1; replace Kb2 := Aside0.mk ((hb_.block _ (blk_lt Kb2.out)).trans Kb2.out); clear hb_)
      | fail)
      go_ret
      exact ⟨by rw [hasP, HC.out, if_pos rfl, decide_eq_true HD.out]; rfl, HB.out⟩
    · have HD := Aside0.mk d
      go_wp2_with (first
      | ((with_reducible refine gate_dst (N := 2) rfl ?_); refine box_event ?hg (N := 2) ?hd (cs := #[.int .i64 t, .int .i64 i]) (t := 38) ?hr ?_; (case hd => rfl); (case hg => rfl); (case hr => first | (go_simp; done) | (go_simp; rfl)); intro b2 hb2 w1 Kb2 hb_; have Gb2 := Aside0.mk (by rw [hb2]; exact HB.out.size : W.heap.size ≤ b2); replace HB := Aside0.mk (below_step HB.out hb_); clear hb2; clear hb_; have cb2_0 := blk_cell Kb2 0; have cb2_1 := blk_cell Kb2 1; simp only [List.getElem?_toArray, List.getElem?_cons_zero, List.getElem?_cons_succ] at cb2_0 cb2_1; replace Kb2 := Aside0.mk Kb2)
      | ((with_reducible refine gate_dst (N := 5) rfl ?_); refine box_event ?hg (N := 5) ?hd (cs := #[.int .i64 0, .int .i64 0]) (t := 38) ?hr ?_; (case hd => rfl); (case hg => rfl); (case hr => first | (go_simp; done) | (go_simp; rfl)); intro b5 hb5 w3 Kb5 hb_; have Gb5 := Aside0.mk (by rw [hb5]; exact HB.out.size : W.heap.size ≤ b5); have Nb2_b5 := Aside0.mk (fun e => by have := blk_lt Kb2.out; omega : b2 ≠ b5); replace HB := Aside0.mk (below_step HB.out hb_); clear hb5; replace cb2_0 := pw_cell_below hb_ cb2_0; replace cb2_1 := pw_cell_below hb_ cb2_1; replace Kb2 := Aside0.mk ((hb_.block _ (blk_lt Kb2.out)).trans Kb2.out); clear hb_; replace Kb5 := Aside0.mk Kb5)
      | (refine store_agg rfl 38 (.tmp 5) (.tmp 14) rfl rfl b5 #[.int .i64 t, .int .i64 (idx t x)] 38 _ rfl rfl Kb5.out size38 rfl (by simp [Value.oneCell']) ?_; intro w4 k_ g_; replace HB := Aside0.mk (HB.out.grown g_ HB.out.size (fun r e => by cases e; exact Gb5.out)); replace Kb2 := Aside0.mk (blk_grown Kb2.out g_ (fun e => by cases e; exact Nb2_b5.out rfl)); clear Kb5; have Kb5 := Aside0.mk k_; clear k_ g_; clear cb2_0; clear cb2_1; have cb2_0 := blk_cell Kb2.out 0; have cb2_1 := blk_cell Kb2.out 1; have cb5_0 := blk_cell Kb5.out 0; have cb5_1 := blk_cell Kb5.out 1; simp only [List.getElem?_toArray, List.getElem?_cons_zero, List.getElem?_cons_succ] at cb2_0 cb2_1 cb5_0 cb5_1)
      | (go_at_call 36; refine (of_calls _ _ _).mono ?_; rintro e w2 ⟨rfl, hb_⟩; replace HB := Aside0.mk (below_step HB.out hb_); replace cb2_0 := pw_cell_below hb_ cb2_0; replace cb2_1 := pw_cell_below hb_ cb2_1; replace Kb2 := Aside0.mk ((hb_.block _ (blk_lt Kb2.out)).trans Kb2.out); clear hb_; rw [HC.out, HT.out, HI.out])
      | (go_at_call 39; refine (span_calls _ _ _).mono ?_; rintro e w5 ⟨rfl, hb_⟩; replace HB := Aside0.mk (below_step HB.out hb_); replace cb2_0 := pw_cell_below hb_ cb2_0; replace cb2_1 := pw_cell_below hb_ cb2_1; replace Kb2 := Aside0.mk ((hb_.block _ (blk_lt Kb2.out)).trans Kb2.out); clear hb_)
      | fail)
      go_ret
      exact ⟨by rw [hasP, HC.out, if_pos rfl, decide_eq_false HD.out]; rfl, HB.out⟩
end Go.Proofs.YthhmfeiefbnhcaaGreat.Due
namespace Go.Proofs.YthhmfeiefbnhcaaGreat.Due
open Go.RowKit Go.Proofs.YthhmfeiefbnhcaaGreat.PDueParts Go.Proofs.YthhmfeiefbnhcaaGreatW.PrintWords Go.Proofs.YthhmfeiefbnhcaaGreatW.PrintLast
set_option linter.unusedVariables false
set_option linter.unusedSimpArgs false
structure CatAt (w : World) (cb ob : Nat) (A : Option Addr) (c : Nat) (l : List S183) : Prop where
  blk : w.heap[cb]? = some (.cells #[.pointer (some ⟨ob, 0, none⟩)] 134 (0, 0))
  map : MapAt w ob A c l
theorem CatAt.below {w w1 : World} {cb ob : Nat} {A : Option Addr} {c : Nat} {l : List S183} (h : CatAt w cb ob A c l) (hb : Below w.heap.size w w1) : CatAt w1 cb ob A c l :=
  ⟨(hb.block cb (blk_lt h.blk)).trans h.blk, h.map.below hb⟩
def atI (l : List S183) (k : Int) : Bool := floorI l k && hasP (floorD l k).f1.f0.f0 (floorD l k).f1.f0.f1 k
def atD (l : List S183) (k : Int) : S43 := if atI l k = true then (floorD l k).f1 else z43
set_option maxRecDepth 100000 in
set_option maxHeartbeats 2000000 in
theorem at_calls (W : World) (cb ob : Nat) (A : Option Addr) (c : Nat) (l : List S183) (k : Int) (hm : CatAt W cb ob A c l) (hr : Rising l) (hsz : l.length < 4611686018427387904) :
    Calls Tryz.prog 84 #[.pointer (some ⟨cb, 0, none⟩), .int .i64 k] W fun e w' => e = .returned (.tuple #[.agg #[.int .i64 (atD l k).f0.f0, .int .i64 (atD l k).f0.f1, .int .i64 (atD l k).f1, .int .i64 (atD l k).f2, .int .i64 (atD l k).f3, .bool (atD l k).f4], .bool (atI l k)]) ∧ Below W.heap.size W w' := by
  have HM := Aside0.mk hm
  have HR := Aside0.mk hr
  have HB := Aside0.mk (Below.refl W.heap.size W)
  have pc : W.cell? ⟨cb, 0, none⟩ = some (.pointer (some ⟨ob, 0, none⟩)) := (blk_cell hm.blk 0).trans rfl
  cases hi : floorI l k
  case false =>
    have HI := Aside0.mk hi
    have HE := Aside0.mk (show atI l k = false by rw [atI, hi]; rfl)
    clear hm hr hi
    go_enter Tryz.func84, Tryz.ntmps84
    go_wp2_with (first
      | ((with_reducible refine gate_dst (N := 4) rfl ?_); refine box_event ?hg (N := 4) ?hd (cs := #[.int .i64 0, .int .i64 0, .int .i64 0, .int .i64 0, .int .i64 0, .bool false]) (t := 43) ?hr ?_; (case hd => rfl); (case hg => rfl); (case hr => first | (go_simp; done) | (go_simp; rfl)); intro b4 hb4 w1 Kb4 hb_; have Gb4 := Aside0.mk (by rw [hb4]; exact HB.out.size : W.heap.size ≤ b4); replace HB := Aside0.mk (below_step HB.out hb_); clear hb4; replace pc := pw_cell_below hb_ pc; clear hb_; replace Kb4 := Aside0.mk Kb4)
      | (go_at_call 122; refine (floor_calls _ ob A c l k (HM.out.map.below HB.out) HR.out hsz).mono ?_; rintro e w2 ⟨rfl, hb_⟩; replace HB := Aside0.mk (below_step HB.out hb_); replace Kb4 := Aside0.mk ((hb_.block _ (blk_lt Kb4.out)).trans Kb4.out); clear hb_; rw [HI.out]; clear pc)
      | (refine store_agg rfl 43 (.tmp 4) (.tmp 17) rfl rfl b4 #[.int .i64 (floorD l k).f1.f0.f0, .int .i64 (floorD l k).f1.f0.f1, .int .i64 (floorD l k).f1.f1, .int .i64 (floorD l k).f1.f2, .int .i64 (floorD l k).f1.f3, .bool (floorD l k).f1.f4] 43 _ rfl rfl Kb4.out size43 rfl (by simp [Value.oneCell']) ?_; intro w3 k_ g_; replace HB := Aside0.mk (HB.out.grown g_ HB.out.size (fun r e => by cases e; exact Gb4.out)); clear Kb4; have Kb4 := Aside0.mk k_; clear k_ g_; have cb4_0 := blk_cell Kb4.out 0; have cb4_1 := blk_cell Kb4.out 1; have cb4_2 := blk_cell Kb4.out 2; have cb4_3 := blk_cell Kb4.out 3; have cb4_4 := blk_cell Kb4.out 4; have cb4_5 := blk_cell Kb4.out 5; simp only [List.getElem?_toArray, List.getElem?_cons_zero, List.getElem?_cons_succ] at cb4_0 cb4_1 cb4_2 cb4_3 cb4_4 cb4_5)
      | (go_at_call 13; refine (has_calls _ _ _ _).mono ?_; rintro e w4 ⟨rfl, hb_⟩; replace HB := Aside0.mk (below_step HB.out hb_); replace Kb4 := Aside0.mk ((hb_.block _ (blk_lt Kb4.out)).trans Kb4.out); replace cb4_0 := pw_cell_below hb_ cb4_0; replace cb4_1 := pw_cell_below hb_ cb4_1; replace cb4_2 := pw_cell_below hb_ cb4_2; replace cb4_3 := pw_cell_below hb_ cb4_3; replace cb4_4 := pw_cell_below hb_ cb4_4; replace cb4_5 := pw_cell_below hb_ cb4_5; clear hb_; rw [HH.out])
      | (refine store_agg rfl 43 (.tmp 4) (.tmp 28) rfl rfl b4 #[.int .i64 0, .int .i64 0, .int .i64 0, .int .i64 0, .int .i64 0, .bool false] 43 _ rfl rfl Kb4.out size43 rfl (by simp [Value.oneCell']) ?_; intro w5 k_ g_; replace HB := Aside0.mk (HB.out.grown g_ HB.out.size (fun r e => by cases e; exact Gb4.out)); clear Kb4; have Kb4 := Aside0.mk k_; clear k_ g_; clear cb4_0; clear cb4_1; clear cb4_2; clear cb4_3; clear cb4_4; clear cb4_5)
      | (refine store_agg rfl 43 (.tmp 4) (.tmp 29) rfl rfl b4 #[.int .i64 (floorD l k).f1.f0.f0, .int .i64 (floorD l k).f1.f0.f1, .int .i64 (floorD l k).f1.f1, .int .i64 (floorD l k).f1.f2, .int .i64 (floorD l k).f1.f3, .bool (floorD l k).f1.f4] 43 _ rfl rfl Kb4.out size43 rfl (by simp [Value.oneCell']) ?_; intro w5 k_ g_; replace HB := Aside0.mk (HB.out.grown g_ HB.out.size (fun r e => by cases e; exact Gb4.out)); clear Kb4; have Kb4 := Aside0.mk k_; clear k_ g_; clear cb4_0; clear cb4_1; clear cb4_2; clear cb4_3; clear cb4_4; clear cb4_5)
      | fail)
    (try simp only [Exit.inBlock, Exit.then])
    refine bodyPost_ret (results_ct rfl _ _ b4 43 _ (0, 0) _ rfl Kb4.out Tryz.underlying43 rfl size43) rfl ?_
    exact ⟨by rw [atD, HE.out, if_neg (by decide)]; rfl, HB.out⟩
  case true =>
    cases hh : hasP (floorD l k).f1.f0.f0 (floorD l k).f1.f0.f1 k
    case false =>
      have HI := Aside0.mk hi
      have HH := Aside0.mk hh
      have HE := Aside0.mk (show atI l k = false by rw [atI, hi, hh]; rfl)
      clear hm hr hi hh
      go_enter Tryz.func84, Tryz.ntmps84
      go_wp2_with (first
      | ((with_reducible refine gate_dst (N := 4) rfl ?_); refine box_event ?hg (N := 4) ?hd (cs := #[.int .i64 0, .int .i64 0, .int .i64 0, .int .i64 0, .int .i64 0, .bool false]) (t := 43) ?hr ?_; (case hd => rfl); (case hg => rfl); (case hr => first | (go_simp; done) | (go_simp; rfl)); intro b4 hb4 w1 Kb4 hb_; have Gb4 := Aside0.mk (by rw [hb4]; exact HB.out.size : W.heap.size ≤ b4); replace HB := Aside0.mk (below_step HB.out hb_); clear hb4; replace pc := pw_cell_below hb_ pc; clear hb_; replace Kb4 := Aside0.mk Kb4)
      | (go_at_call 122; refine (floor_calls _ ob A c l k (HM.out.map.below HB.out) HR.out hsz).mono ?_; rintro e w2 ⟨rfl, hb_⟩; replace HB := Aside0.mk (below_step HB.out hb_); replace Kb4 := Aside0.mk ((hb_.block _ (blk_lt Kb4.out)).trans Kb4.out); clear hb_; rw [HI.out]; clear pc)
      | (refine store_agg rfl 43 (.tmp 4) (.tmp 17) rfl rfl b4 #[.int .i64 (floorD l k).f1.f0.f0, .int .i64 (floorD l k).f1.f0.f1, .int .i64 (floorD l k).f1.f1, .int .i64 (floorD l k).f1.f2, .int .i64 (floorD l k).f1.f3, .bool (floorD l k).f1.f4] 43 _ rfl rfl Kb4.out size43 rfl (by simp [Value.oneCell']) ?_; intro w3 k_ g_; replace HB := Aside0.mk (HB.out.grown g_ HB.out.size (fun r e => by cases e; exact Gb4.out)); clear Kb4; have Kb4 := Aside0.mk k_; clear k_ g_; have cb4_0 := blk_cell Kb4.out 0; have cb4_1 := blk_cell Kb4.out 1; have cb4_2 := blk_cell Kb4.out 2; have cb4_3 := blk_cell Kb4.out 3; have cb4_4 := blk_cell Kb4.out 4; have cb4_5 := blk_cell Kb4.out 5; simp only [List.getElem?_toArray, List.getElem?_cons_zero, List.getElem?_cons_succ] at cb4_0 cb4_1 cb4_2 cb4_3 cb4_4 cb4_5)
      | (go_at_call 13; refine (has_calls _ _ _ _).mono ?_; rintro e w4 ⟨rfl, hb_⟩; replace HB := Aside0.mk (below_step HB.out hb_); replace Kb4 := Aside0.mk ((hb_.block _ (blk_lt Kb4.out)).trans Kb4.out); replace cb4_0 := pw_cell_below hb_ cb4_0; replace cb4_1 := pw_cell_below hb_ cb4_1; replace cb4_2 := pw_cell_below hb_ cb4_2; replace cb4_3 := pw_cell_below hb_ cb4_3; replace cb4_4 := pw_cell_below hb_ cb4_4; replace cb4_5 := pw_cell_below hb_ cb4_5; clear hb_; rw [HH.out])
      | (refine store_agg rfl 43 (.tmp 4) (.tmp 28) rfl rfl b4 #[.int .i64 0, .int .i64 0, .int .i64 0, .int .i64 0, .int .i64 0, .bool false] 43 _ rfl rfl Kb4.out size43 rfl (by simp [Value.oneCell']) ?_; intro w5 k_ g_; replace HB := Aside0.mk (HB.out.grown g_ HB.out.size (fun r e => by cases e; exact Gb4.out)); clear Kb4; have Kb4 := Aside0.mk k_; clear k_ g_; clear cb4_0; clear cb4_1; clear cb4_2; clear cb4_3; clear cb4_4; clear cb4_5)
      | (refine store_agg rfl 43 (.tmp 4) (.tmp 29) rfl rfl b4 #[.int .i64 (floorD l k).f1.f0.f0, .int .i64 (floorD l k).f1.f0.f1, .int .i64 (floorD l k).f1.f1, .int .i64 (floorD l k).f1.f2, .int .i64 (floorD l k).f1.f3, .bool (floorD l k).f1.f4] 43 _ rfl rfl Kb4.out size43 rfl (by simp [Value.oneCell']) ?_; intro w5 k_ g_; replace HB := Aside0.mk (HB.out.grown g_ HB.out.size (fun r e => by cases e; exact Gb4.out)); clear Kb4; have Kb4 := Aside0.mk k_; clear k_ g_; clear cb4_0; clear cb4_1; clear cb4_2; clear cb4_3; clear cb4_4; clear cb4_5)
      | fail)
      (try simp only [Exit.inBlock, Exit.then])
      refine bodyPost_ret (results_ct rfl _ _ b4 43 _ (0, 0) _ rfl Kb4.out Tryz.underlying43 rfl size43) rfl ?_
      exact ⟨by rw [atD, HE.out, if_neg (by decide)]; rfl, HB.out⟩
    case true =>
      have HI := Aside0.mk hi
      have HH := Aside0.mk hh
      have HE := Aside0.mk (show atI l k = true by rw [atI, hi, hh]; rfl)
      clear hm hr hi hh
      go_enter Tryz.func84, Tryz.ntmps84
      go_wp2_with (first
      | ((with_reducible refine gate_dst (N := 4) rfl ?_); refine box_event ?hg (N := 4) ?hd (cs := #[.int .i64 0, .int .i64 0, .int .i64 0, .int .i64 0, .int .i64 0, .bool false]) (t := 43) ?hr ?_; (case hd => rfl); (case hg => rfl); (case hr => first | (go_simp; done) | (go_simp; rfl)); intro b4 hb4 w1 Kb4 hb_; have Gb4 := Aside0.mk (by rw [hb4]; exact HB.out.size : W.heap.size ≤ b4); replace HB := Aside0.mk (below_step HB.out hb_); clear hb4; replace pc := pw_cell_below hb_ pc; clear hb_; replace Kb4 := Aside0.mk Kb4)
      | (go_at_call 122; refine (floor_calls _ ob A c l k (HM.out.map.below HB.out) HR.out hsz).mono ?_; rintro e w2 ⟨rfl, hb_⟩; replace HB := Aside0.mk (below_step HB.out hb_); replace Kb4 := Aside0.mk ((hb_.block _ (blk_lt Kb4.out)).trans Kb4.out); clear hb_; rw [HI.out]; clear pc)
      | (refine store_agg rfl 43 (.tmp 4) (.tmp 17) rfl rfl b4 #[.int .i64 (floorD l k).f1.f0.f0, .int .i64 (floorD l k).f1.f0.f1, .int .i64 (floorD l k).f1.f1, .int .i64 (floorD l k).f1.f2, .int .i64 (floorD l k).f1.f3, .bool (floorD l k).f1.f4] 43 _ rfl rfl Kb4.out size43 rfl (by simp [Value.oneCell']) ?_; intro w3 k_ g_; replace HB := Aside0.mk (HB.out.grown g_ HB.out.size (fun r e => by cases e; exact Gb4.out)); clear Kb4; have Kb4 := Aside0.mk k_; clear k_ g_; have cb4_0 := blk_cell Kb4.out 0; have cb4_1 := blk_cell Kb4.out 1; have cb4_2 := blk_cell Kb4.out 2; have cb4_3 := blk_cell Kb4.out 3; have cb4_4 := blk_cell Kb4.out 4; have cb4_5 := blk_cell Kb4.out 5; simp only [List.getElem?_toArray, List.getElem?_cons_zero, List.getElem?_cons_succ] at cb4_0 cb4_1 cb4_2 cb4_3 cb4_4 cb4_5)
      | (go_at_call 13; refine (has_calls _ _ _ _).mono ?_; rintro e w4 ⟨rfl, hb_⟩; replace HB := Aside0.mk (below_step HB.out hb_); replace Kb4 := Aside0.mk ((hb_.block _ (blk_lt Kb4.out)).trans Kb4.out); replace cb4_0 := pw_cell_below hb_ cb4_0; replace cb4_1 := pw_cell_below hb_ cb4_1; replace cb4_2 := pw_cell_below hb_ cb4_2; replace cb4_3 := pw_cell_below hb_ cb4_3; replace cb4_4 := pw_cell_below hb_ cb4_4; replace cb4_5 := pw_cell_below hb_ cb4_5; clear hb_; rw [HH.out])
      | (refine store_agg rfl 43 (.tmp 4) (.tmp 28) rfl rfl b4 #[.int .i64 0, .int .i64 0, .int .i64 0, .int .i64 0, .int .i64 0, .bool false] 43 _ rfl rfl Kb4.out size43 rfl (by simp [Value.oneCell']) ?_; intro w5 k_ g_; replace HB := Aside0.mk (HB.out.grown g_ HB.out.size (fun r e => by cases e; exact Gb4.out)); clear Kb4; have Kb4 := Aside0.mk k_; clear k_ g_; clear cb4_0; clear cb4_1; clear cb4_2; clear cb4_3; clear cb4_4; clear cb4_5)
      | (refine store_agg rfl 43 (.tmp 4) (.tmp 29) rfl rfl b4 #[.int .i64 (floorD l k).f1.f0.f0, .int .i64 (floorD l k).f1.f0.f1, .int .i64 (floorD l k).f1.f1, .int .i64 (floorD l k).f1.f2, .int .i64 (floorD l k).f1.f3, .bool (floorD l k).f1.f4] 43 _ rfl rfl Kb4.out size43 rfl (by simp [Value.oneCell']) ?_; intro w5 k_ g_; replace HB := Aside0.mk (HB.out.grown g_ HB.out.size (fun r e => by cases e; exact Gb4.out)); clear Kb4; have Kb4 := Aside0.mk k_; clear k_ g_; clear cb4_0; clear cb4_1; clear cb4_2; clear cb4_3; clear cb4_4; clear cb4_5)
      | fail)
      (try simp only [Exit.inBlock, Exit.then])
      refine bodyPost_ret (results_ct rfl _ _ b4 43 _ (0, 0) _ rfl Kb4.out Tryz.underlying43 rfl size43) rfl ?_
      exact ⟨by rw [atD, HE.out, if_pos rfl]; rfl, HB.out⟩
end Go.Proofs.YthhmfeiefbnhcaaGreat.Due
namespace Go.Proofs.YthhmfeiefbnhcaaGreat.Due
open Go.RowKit Go.Proofs.YthhmfeiefbnhcaaGreatW.PrintWords Go.Proofs.YthhmfeiefbnhcaaGreatW.PrintLast
set_option linter.unusedVariables false
section
variable {P : Program} {ops : Array Oper} {Q : Exit → Act → World → Prop} {l n : Nat}
theorem listIn_of (hQ : ¬ LetsOut Q) : ∀ (rest : List Oper), (∀ o ∈ rest, ∀ c, o.op ≠ .defer c) → ∀ (a : Act) (w : World), wpList P ops Q rest a w → wpListIn (Fence.wide.inRound l) n P ops Q rest a w
  | [], _, _, _, h => h
  | o :: rest, hnd, a, w, h => by
    unfold wpList at h
    unfold wpListIn
    split
    · rename_i hw
      rw [if_pos hw] at h
      exact operIn_of (hnd o (by simp)) (Oper.wp_mono (fun a w h => listIn_of hQ rest (fun o ho => hnd o (by simp [ho])) a w h) (h.elim id (fun h => absurd h.2 hQ)))
    · rename_i hw
      rw [if_neg hw] at h
      exact ⟨fun f _ => trivial, listIn_of hQ rest (fun o ho => hnd o (by simp [ho])) _ _ h⟩
theorem regionIn_ {id : Nat} {a : Act} {w : World} (hnd : (ops.all fun o => match o.op with | .defer _ => false | _ => true) = true) (hQ : ¬ LetsOut Q) (h : wpList P ops Q ops.toList a w) : (Code.region id ops false).wpIn (Fence.wide.inRound l) n P Q a w := by
  refine wpIn_region_list (listIn_of hQ _ (fun o ho c e => ?_) _ _ h)
  obtain ⟨i, hi, rfl⟩ := Array.getElem_of_mem (Array.mem_toList_iff.1 ho)
  have := Array.all_eq_true.1 hnd i hi
  rw [e] at this
  cases this
theorem regionIn_lit {id : Nat} {ol : List Oper} {a : Act} {w : World} (hnd : (ol.toArray.all fun o => match o.op with | .defer _ => false | _ => true) = true) (hQ : ¬ LetsOut Q) (h : wpList P ol.toArray Q ol a w) : (Code.region id ol.toArray false).wpIn (Fence.wide.inRound l) n P Q a w :=
  regionIn_ hnd hQ (by simpa using h)
end
section
variable {P : Program} {ops : Array Oper} {rest : List Oper} {o : Oper} {a : Act} {Q : Exit → Act → World → Prop}
theorem brow_event {W : World} (hgd : o.guard = none) {N : Tmp} (_hd : o.dst = some N) {cs : Array Value} {t : TypeId} {n : Nat}
    (hrun : (execOp a.eval o).run P W = .ok (.value (.slice (some ⟨W.heap.size, 0, none⟩) n n)) (W.alloc (.cells cs t (0, 0))))
    (h : ∀ g, g = W.heap.size → ∀ w1, w1.heap[g]? = some (.cells cs t (0, 0)) → Below W.heap.size W w1 → wpList P ops Q rest (a.put o.dst (.slice (some ⟨g, 0, none⟩) n n)) w1) : wpList P ops Q (o :: rest) a W :=
  Kd.event_run hgd hrun (h _ rfl _ (blk_new W _) (below_alloc (Below.refl _ _) _))
end
theorem R_other {α : Type} {d : Kd α} {e : Nat} {W W' : World} {base : Nat} {ok : Nat → Prop} {v : Value} {xs : List α} {b : Nat} {cs : Array Value} {t : TypeId} {fr : Nat × Nat} (h : d.R e W base ok v xs) (hb : W.heap[b]? = some (.cells cs t fr)) (ht : ∀ q, q ∈ e :: d.E → q ≠ t) (hg : W.grownBy W' (some b)) : d.R e W' base ok v xs :=
  Kd.R_mono (Kd.R_move (Kd.R_bound h) (fun k hk => hg.block k hk.2.2.1 (fun e => by
    cases e
    obtain ⟨q, hq, cells, hc⟩ := hk.2.2.2
    rw [hb] at hc
    cases hc
    exact ht _ hq rfl))) (fun _ hk => hk.1)
theorem R_slice' {α : Type} {d : Kd α} {e : Nat} {W : World} {base : Nat} {ok : Nat → Prop} {v : Value} {xs : List α} (h : d.R e W base ok v xs) : ∃ A n c, v = .slice A n c := by
  obtain ⟨A, c, h⟩ := Kd.R_slice h
  exact ⟨A, _, c, h⟩
theorem keeps_below {W W' : World} (h : Below W.heap.size W W') : KeepsOthers W W' := ⟨h.size, fun k o ho _ => (h.block k (Array.getElem?_eq_some_iff.1 ho).1).trans ho⟩
theorem below_back {B : Nat} {W W5 w : World} (h5 : Below B W W5) (h : Below B W w) (hs : W5.heap.size ≤ w.heap.size) : Below B W5 w :=
  ⟨h.os.trans h5.os.symm, h.tape.trans h5.tape.symm, h.output.trans h5.output.symm, hs, fun k hk => (h.block k hk).trans (h5.block k hk).symm⟩
theorem reads_row {α : Type} {d : Kd α} {W : World} {e bv : Nat} {p : α} {cs : List Value} (hv : W.heap[bv]? = some (.cells cs.toArray e (0, 0))) (hl : cs.length = d.sz) : ReadsRow (fun q cs' => q = p ∧ cs' = cs) d.sz W (some ⟨bv, 0, none⟩) 1 [p] :=
  ⟨rfl, by omega, fun _ => ⟨_, rfl, fun j q hj => by
    cases j with
    | zero =>
      obtain rfl : p = q := by simpa using hj
      refine ⟨cs, hl, ⟨rfl, rfl⟩, fun k u hu => ?_⟩
      rw [show 0 * d.sz + k = k by omega, add_plain, blk_cell hv k]
      simpa using hu
    | succ j => simp at hj⟩⟩
theorem results_c1 {P : Program} {fn : Func} {p : Tmp} {ty e : TypeId} (h : fn.results = #[.cell p ty]) (tmps : Array Value) (w : World) (g : Nat) (v : Value) (t : TypeId) (fr : Nat × Nat)
    (hu : P.underlying ty = some (.slice e)) (hp : tmps.getD p undef = .pointer (some ⟨g, 0, none⟩)) (hg : w.heap[g]? = some (.cells #[v] t fr)) : (results fn tmps).run P w = .ok v w := by
  have hp' : tmps[p]?.getD undef = .pointer (some ⟨g, 0, none⟩) := by simpa using hp
  have hc : w.cell? ⟨g, 0, none⟩ = some v := by rw [cell_of_row w g 0 #[v] t fr hg]; rfl
  simp [results, h, hp', asAddr, loadVar, isAgg, run_underlying hu, Sem.run_bind, hc, go_sem]
end Go.Proofs.YthhmfeiefbnhcaaGreat.Due
namespace Go.Proofs.YthhmfeiefbnhcaaGreat.Due
open Go.RowKit Go.Shelf Go.Proofs.YthhmfeiefbnhcaaGreat.PDueParts Go.Proofs.YthhmfeiefbnhcaaGreatW.PrintWords Go.Proofs.YthhmfeiefbnhcaaGreatW.PrintLast
set_option linter.unusedVariables false
set_option linter.unusedSimpArgs false
attribute [local go_sem] Oper.semAt_some
theorem size22 : (Tryz.prog.info? 22).map (·.size) = some 1 := by kernel_rfl
theorem size2 : (Tryz.prog.info? 2).map (·.size) = some 1 := by kernel_rfl
def overH (l : List S183) (f : Int) : List S43 := if atI l f = true then [atD l f] else []
def overT (f : Int) (ys : List S183) : List S43 := (ys.filter fun p => p.f0 != f).map (·.f1)
def overP (l : List S183) (f t : Int) : List S43 := overH l f ++ overT f ((l.take (below l t)).drop (below l f))
set_option maxRecDepth 100000 in
set_option maxHeartbeats 2000000 in
theorem over_calls (W : World) (cb ob : Nat) (A : Option Addr) (c : Nat) (l : List S183) (from_ to_ : Int) (hm : CatAt W cb ob A c l) (hr : Rising l) (hsz : l.length ≤ 1000000) (hlt : from_ < to_) :
    Calls Tryz.prog 104 #[.pointer (some ⟨cb, 0, none⟩), .int .i64 from_, .int .i64 to_] W fun e w' => ∃ v, e = .returned v ∧ Kd.R k43 43 w' W.heap.size (fun _ => True) v (overP l from_ to_) ∧ Below W.heap.size W w' := by
  have HM := Aside0.mk hm
  have HR := Aside0.mk hr
  have HB := Aside0.mk (Below.refl W.heap.size W)
  have pc : W.cell? ⟨cb, 0, none⟩ = some (.pointer (some ⟨ob, 0, none⟩)) := (blk_cell hm.blk 0).trans rfl
  have PC := Aside0.mk pc
  have HSZ := Aside0.mk (show l.length < 4611686018427387904 by omega)
  have hle : ¬ to_ ≤ from_ := by omega
  clear hm hr
  refine (callsIn_wide (n := 3)).1 (callsIn_of_wp_marks Tryz.func104 rfl trivial ?_ rfl)
  simp only [Tryz.ntmps104, List.size_toArray, List.length_cons, List.length_nil, Nat.reduceAdd, Nat.reduceSub, Array.replicate_succ, Array.replicate_zero, List.push_toArray, List.append_toArray, List.nil_append, List.cons_append]
  refine wpIn_wide.2 ?_
  go_wp2_with (first
      | ((with_reducible refine gate_dst (N := 4) rfl ?_); refine box_event ?hg (N := 4) ?hd (cs := #[.int .i64 from_]) (t := 2) ?hr ?_; (case hd => rfl); (case hg => rfl); (case hr => first | (go_simp; done) | (go_simp; rfl)); intro b4 hb4 w1 Kb4 hb_; have Gb4 := Aside0.mk (by rw [hb4]; exact HB.out.size : W.heap.size ≤ b4); replace HB := Aside0.mk (below_step HB.out hb_); clear hb4; replace pc := pw_cell_below hb_ pc; clear hb_; have cb4_0 := blk_cell Kb4 0; simp only [List.getElem?_toArray, List.getElem?_cons_zero, List.getElem?_cons_succ] at cb4_0; replace Kb4 := Aside0.mk Kb4)
      | ((with_reducible refine gate_dst (N := 6) rfl ?_); refine box_event ?hg (N := 6) ?hd (cs := #[.slice none 0 0]) (t := 22) ?hr ?_; (case hd => rfl); (case hg => rfl); (case hr => first | (go_simp; done) | (go_simp; rfl)); intro b6 hb6 w2 Kb6 hb_; have Gb6 := Aside0.mk (by rw [hb6]; exact HB.out.size : W.heap.size ≤ b6); have Nb4_b6 := Aside0.mk (fun e => by have := blk_lt Kb4.out; omega : b4 ≠ b6); replace HB := Aside0.mk (below_step HB.out hb_); clear hb6; replace pc := pw_cell_below hb_ pc; replace cb4_0 := pw_cell_below hb_ cb4_0; replace Kb4 := Aside0.mk ((hb_.block _ (blk_lt Kb4.out)).trans Kb4.out); clear hb_; have cb6_0 := blk_cell Kb6 0; simp only [List.getElem?_toArray, List.getElem?_cons_zero, List.getElem?_cons_succ] at cb6_0; replace Kb6 := Aside0.mk Kb6)
      | (go_at_call 84; refine (at_calls _ cb ob A c l from_ (HM.out.below HB.out) HR.out HSZ.out).mono ?_; rintro e w3 ⟨rfl, hb_⟩; replace HB := Aside0.mk (below_step HB.out hb_); replace pc := pw_cell_below hb_ pc; replace cb4_0 := pw_cell_below hb_ cb4_0; replace Kb4 := Aside0.mk ((hb_.block _ (blk_lt Kb4.out)).trans Kb4.out); replace Kb6 := Aside0.mk ((hb_.block _ (blk_lt Kb6.out)).trans Kb6.out); replace cb6_0 := pw_cell_below hb_ cb6_0; clear hb_)
      | ((with_reducible refine gate_dst (N := 7) rfl ?_); refine box_event ?hg (N := 7) ?hd (cs := #[.int .i64 0, .int .i64 0, .int .i64 0, .int .i64 0, .int .i64 0, .bool false]) (t := 43) ?hr ?_; (case hd => rfl); (case hg => rfl); (case hr => first | (go_simp; done) | (go_simp; rfl)); intro b7 hb7 w4 Kb7 hb_; have Gb7 := Aside0.mk (by rw [hb7]; exact HB.out.size : W.heap.size ≤ b7); have Nb4_b7 := Aside0.mk (fun e => by have := blk_lt Kb4.out; omega : b4 ≠ b7); have Nb6_b7 := Aside0.mk (fun e => by have := blk_lt Kb6.out; omega : b6 ≠ b7); replace HB := Aside0.mk (below_step HB.out hb_); clear hb7; replace pc := pw_cell_below hb_ pc; replace cb4_0 := pw_cell_below hb_ cb4_0; replace Kb4 := Aside0.mk ((hb_.block _ (blk_lt Kb4.out)).trans Kb4.out); replace Kb6 := Aside0.mk ((hb_.block _ (blk_lt Kb6.out)).trans Kb6.out); replace cb6_0 := pw_cell_below hb_ cb6_0; clear hb_; replace Kb7 := Aside0.mk Kb7)
      | (refine store_agg rfl 43 (.tmp 7) (.tmp 22) rfl rfl b7 #[.int .i64 (atD l from_).f0.f0, .int .i64 (atD l from_).f0.f1, .int .i64 (atD l from_).f1, .int .i64 (atD l from_).f2, .int .i64 (atD l from_).f3, .bool (atD l from_).f4] 43 _ rfl rfl Kb7.out size43 rfl (by simp [Value.oneCell']) ?_; intro w5 k_ g_; replace HB := Aside0.mk (HB.out.grown g_ HB.out.size (fun r e => by cases e; exact Gb7.out)); replace Kb4 := Aside0.mk (blk_grown Kb4.out g_ (fun e => by cases e; exact Nb4_b7.out rfl)); replace Kb6 := Aside0.mk (blk_grown Kb6.out g_ (fun e => by cases e; exact Nb6_b7.out rfl)); clear Kb7; have Kb7 := Aside0.mk k_; clear k_ g_; clear cb4_0; clear cb6_0; clear pc; have cb4_0 := blk_cell Kb4.out 0; have cb7_0 := blk_cell Kb7.out 0; have cb7_1 := blk_cell Kb7.out 1; have cb7_2 := blk_cell Kb7.out 2; have cb7_3 := blk_cell Kb7.out 3; have cb7_4 := blk_cell Kb7.out 4; have cb7_5 := blk_cell Kb7.out 5; have cb6_0 := blk_cell Kb6.out 0; simp only [List.getElem?_toArray, List.getElem?_cons_zero, List.getElem?_cons_succ] at cb4_0 cb7_0 cb7_1 cb7_2 cb7_3 cb7_4 cb7_5 cb6_0)
      | fail)
  refine wp_scope_straight ?_
  go_upto_region 4 with (first
      | ((with_reducible refine gate_dst (N := 4) rfl ?_); refine box_event ?hg (N := 4) ?hd (cs := #[.int .i64 from_]) (t := 2) ?hr ?_; (case hd => rfl); (case hg => rfl); (case hr => first | (go_simp; done) | (go_simp; rfl)); intro b4 hb4 w1 Kb4 hb_; have Gb4 := Aside0.mk (by rw [hb4]; exact HB.out.size : W.heap.size ≤ b4); replace HB := Aside0.mk (below_step HB.out hb_); clear hb4; replace pc := pw_cell_below hb_ pc; clear hb_; have cb4_0 := blk_cell Kb4 0; simp only [List.getElem?_toArray, List.getElem?_cons_zero, List.getElem?_cons_succ] at cb4_0; replace Kb4 := Aside0.mk Kb4)
      | ((with_reducible refine gate_dst (N := 6) rfl ?_); refine box_event ?hg (N := 6) ?hd (cs := #[.slice none 0 0]) (t := 22) ?hr ?_; (case hd => rfl); (case hg => rfl); (case hr => first | (go_simp; done) | (go_simp; rfl)); intro b6 hb6 w2 Kb6 hb_; have Gb6 := Aside0.mk (by rw [hb6]; exact HB.out.size : W.heap.size ≤ b6); have Nb4_b6 := Aside0.mk (fun e => by have := blk_lt Kb4.out; omega : b4 ≠ b6); replace HB := Aside0.mk (below_step HB.out hb_); clear hb6; replace pc := pw_cell_below hb_ pc; replace cb4_0 := pw_cell_below hb_ cb4_0; replace Kb4 := Aside0.mk ((hb_.block _ (blk_lt Kb4.out)).trans Kb4.out); clear hb_; have cb6_0 := blk_cell Kb6 0; simp only [List.getElem?_toArray, List.getElem?_cons_zero, List.getElem?_cons_succ] at cb6_0; replace Kb6 := Aside0.mk Kb6)
      | (go_at_call 84; refine (at_calls _ cb ob A c l from_ (HM.out.below HB.out) HR.out HSZ.out).mono ?_; rintro e w3 ⟨rfl, hb_⟩; replace HB := Aside0.mk (below_step HB.out hb_); replace pc := pw_cell_below hb_ pc; replace cb4_0 := pw_cell_below hb_ cb4_0; replace Kb4 := Aside0.mk ((hb_.block _ (blk_lt Kb4.out)).trans Kb4.out); replace Kb6 := Aside0.mk ((hb_.block _ (blk_lt Kb6.out)).trans Kb6.out); replace cb6_0 := pw_cell_below hb_ cb6_0; clear hb_)
      | ((with_reducible refine gate_dst (N := 7) rfl ?_); refine box_event ?hg (N := 7) ?hd (cs := #[.int .i64 0, .int .i64 0, .int .i64 0, .int .i64 0, .int .i64 0, .bool false]) (t := 43) ?hr ?_; (case hd => rfl); (case hg => rfl); (case hr => first | (go_simp; done) | (go_simp; rfl)); intro b7 hb7 w4 Kb7 hb_; have Gb7 := Aside0.mk (by rw [hb7]; exact HB.out.size : W.heap.size ≤ b7); have Nb4_b7 := Aside0.mk (fun e => by have := blk_lt Kb4.out; omega : b4 ≠ b7); have Nb6_b7 := Aside0.mk (fun e => by have := blk_lt Kb6.out; omega : b6 ≠ b7); replace HB := Aside0.mk (below_step HB.out hb_); clear hb7; replace pc := pw_cell_below hb_ pc; replace cb4_0 := pw_cell_below hb_ cb4_0; replace Kb4 := Aside0.mk ((hb_.block _ (blk_lt Kb4.out)).trans Kb4.out); replace Kb6 := Aside0.mk ((hb_.block _ (blk_lt Kb6.out)).trans Kb6.out); replace cb6_0 := pw_cell_below hb_ cb6_0; clear hb_; replace Kb7 := Aside0.mk Kb7)
      | (refine store_agg rfl 43 (.tmp 7) (.tmp 22) rfl rfl b7 #[.int .i64 (atD l from_).f0.f0, .int .i64 (atD l from_).f0.f1, .int .i64 (atD l from_).f1, .int .i64 (atD l from_).f2, .int .i64 (atD l from_).f3, .bool (atD l from_).f4] 43 _ rfl rfl Kb7.out size43 rfl (by simp [Value.oneCell']) ?_; intro w5 k_ g_; replace HB := Aside0.mk (HB.out.grown g_ HB.out.size (fun r e => by cases e; exact Gb7.out)); replace Kb4 := Aside0.mk (blk_grown Kb4.out g_ (fun e => by cases e; exact Nb4_b7.out rfl)); replace Kb6 := Aside0.mk (blk_grown Kb6.out g_ (fun e => by cases e; exact Nb6_b7.out rfl)); clear Kb7; have Kb7 := Aside0.mk k_; clear k_ g_; clear cb4_0; clear cb6_0; clear pc; have cb4_0 := blk_cell Kb4.out 0; have cb7_0 := blk_cell Kb7.out 0; have cb7_1 := blk_cell Kb7.out 1; have cb7_2 := blk_cell Kb7.out 2; have cb7_3 := blk_cell Kb7.out 3; have cb7_4 := blk_cell Kb7.out 4; have cb7_5 := blk_cell Kb7.out 5; have cb6_0 := blk_cell Kb6.out 0; simp only [List.getElem?_toArray, List.getElem?_cons_zero, List.getElem?_cons_succ] at cb4_0 cb7_0 cb7_1 cb7_2 cb7_3 cb7_4 cb7_5 cb6_0)
      | fail)
  rename_i K0 hK0 K1 hK1 K2 hK2
  have HSL := Aside0.mk hsz
  clear hsz
  have J : ∀ (v : Value) (x3 x5 x7 x8 x9 x10 x11 x12 x13 x14 x15 x16 x17 x18 x19 x20 x21 x22 x23 x24 x25 x26 x27 x28 x29 x30 x31 x32 x33 x34 x35 x36 x37 x38 x39 x40 x41 x42 x43 x44 x45 : Value) (w6 : World), Kd.R k43 43 w6 W.heap.size (fun _ => True) v (overH l from_) → w6.heap[b6]? = some (.cells #[v] 22 (0, 0)) → w6.heap[b4]? = some (.cells #[.int .i64 from_] 2 (0, 0)) → Below W.heap.size W w6 →
      K1 { tmps := #[.pointer (some ⟨cb, 0, none⟩), .int .i64 from_, .int .i64 to_, x3, .pointer (some ⟨b4, 0, none⟩), x5, .pointer (some ⟨b6, 0, none⟩), x7, x8, x9, x10, x11, x12, x13, x14, x15, x16, x17, x18, x19, x20, x21, x22, x23, x24, x25, x26, x27, x28, x29, x30, x31, x32, x33, x34, x35, x36, x37, x38, x39, x40, x41, x42, x43, x44, x45], defers := [] } w6 := by
    clear hK2 HB Kb4 Kb6 Kb7 cb4_0 cb6_0 cb7_0 cb7_1 cb7_2 cb7_3 cb7_4 cb7_5
    intro v x3 x5 x7 x8 x9 x10 x11 x12 x13 x14 x15 x16 x17 x18 x19 x20 x21 x22 x23 x24 x25 x26 x27 x28 x29 x30 x31 x32 x33 x34 x35 x36 x37 x38 x39 x40 x41 x42 x43 x44 x45 w6 r6 k6 k4 hb6
    have HR6 := Aside0.mk r6
    have HB6 := Aside0.mk hb6
    have HK6 := Aside0.mk k6
    have HB4 := Aside0.mk (show w6.drew.heap[b4]? = some (.cells #[.int .i64 from_] 2 (0, 0)) from k4)
    clear r6 hb6 k6 k4
    apply hK1
    refine wp_seq_k (fun K3 hK3 => wp_label ?_)
    apply hK3
    refine wp_seq_k (fun K4 hK4 => wp_seq_k (fun K5 hK5 => ?_))
    refine wp_mono (Q := Exit.then K5 (fun _ _ _ => False)) ?_ (fun e a w h => by cases e <;> first | exact h | exact h.elim)
    refine start_ (n := 7) (S := fun w' => w'.cell? ⟨cb, 0, none⟩ = some (.pointer (some ⟨ob, 0, none⟩)) ∧ w'.cell? ⟨b4, 0, none⟩ = some (.int .i64 from_)) (ds := []) #[false, false, false, false, false, false, false] (by kernel_rfl) rfl rfl ⟨pw_cell_below HB6.out.drew PC.out, (blk_cell HB4.out 0).trans rfl⟩ ?_
    intro hHeld
    refine pure_ (i := 0) (N := some 29) (v := ?_) (a' := ?_) #[true, false, false, false, false, false, false] rfl rfl (by kernel_rfl) (fun _ _ _ h => h) (Or.inl ⟨by rfl, ?_⟩) ?_ ?_
    rotate_left
    · intro w'
      go_simp
      with_reducible rfl
    rotate_left
    · simp only [Act.put, List.setIfInBounds_toArray, List.set_cons_zero, List.set_cons_succ, i64_w, i32_w]
      rfl
    refine pure_ (i := 1) (N := some 30) (v := ?_) (a' := ?_) #[true, true, false, false, false, false, false] rfl rfl (by kernel_rfl) (fun _ _ _ h => h) (Or.inl ⟨by rfl, ?_⟩) ?_ ?_
    rotate_left
    · intro w'
      go_simp
      with_reducible rfl
    rotate_left
    · simp only [Act.put, List.setIfInBounds_toArray, List.set_cons_zero, List.set_cons_succ, i64_w, i32_w]
      rfl
    refine pure_ (i := 2) (N := some 31) (v := ?_) (a' := ?_) #[true, true, true, false, false, false, false] rfl rfl (by kernel_rfl) (fun _ _ _ h => h) (Or.inl ⟨by rfl, ?_⟩) ?_ ?_
    rotate_left
    · intro w'
      go_simp
      with_reducible rfl
    rotate_left
    · simp only [Act.put, List.setIfInBounds_toArray, List.set_cons_zero, List.set_cons_succ, i64_w, i32_w]
      rfl
    refine take_ (i := 3) (N := some 32) (v := ?_) (a' := ?_) #[true, true, true, true, false, false, false] rfl rfl (by kernel_rfl) (fun _ _ _ h => h) (Or.inl ⟨by rfl, ?_⟩) hHeld ?_ ?_
    rotate_left
    · rintro w' ⟨s0, s1⟩
      go_simp
      with_reducible rfl
    rotate_left
    · simp only [Act.put, List.setIfInBounds_toArray, List.set_cons_zero, List.set_cons_succ, i64_w, i32_w]
      rfl
    refine take_ (i := 4) (N := some 33) (v := ?_) (a' := ?_) #[true, true, true, true, true, false, false] rfl rfl (by kernel_rfl) (fun _ _ _ h => h) (Or.inl ⟨by rfl, ?_⟩) hHeld ?_ ?_
    rotate_left
    · rintro w' ⟨s0, s1⟩
      go_simp
      with_reducible rfl
    rotate_left
    · simp only [Act.put, List.setIfInBounds_toArray, List.set_cons_zero, List.set_cons_succ, i64_w, i32_w]
      rfl
    refine pure_ (i := 5) (N := some 34) (v := ?_) (a' := ?_) #[true, true, true, true, true, true, false] rfl rfl (by kernel_rfl) (fun _ _ _ h => h) (Or.inl ⟨by rfl, ?_⟩) ?_ ?_
    rotate_left
    · intro w'
      go_simp
      with_reducible rfl
    rotate_left
    · simp only [Act.put, List.setIfInBounds_toArray, List.set_cons_zero, List.set_cons_succ, i64_w, i32_w]
      rfl
    refine one_ (i := 6) (N := some 35) #[true, true, true, true, true, true, true] rfl rfl (by kernel_rfl) (by decide) (fun K hK => ?_)
    refine goes_ Tryz.func139 (by kernel_rfl) rfl #[.pointer (some ⟨ob, 0, none⟩), .int .i64 from_, .int .i64 to_] (by rfl) rfl rfl (by go_simp) ?_
    refine (orange_calls _ ob A c l from_ to_ (HM.out.map.below HB6.out.drew) HR.out HSZ.out).mono ?_
    rintro e w7 ⟨bs, A', c', ys, rfl, hbs, hcell, hys, hC_, hb_⟩
    have hC := hC_ W HM.out.map.rd
    clear hC_
    refine ⟨_, rfl, ?_⟩
    refine hK.out _ _ ⟨pw_cell_below hb_ hHeld.1, pw_cell_below hb_ hHeld.2⟩ (fun hHeld => ?_)
    refine done_ (by kernel_rfl) ?_
    clear hHeld
    have hbr : Below w6.heap.size w6 w7 := (Below.refl w6.heap.size w6).drew.trans hb_
    have HB := Aside0.mk (below_step HB6.out.drew hb_)
    have HR7 := Aside0.mk (Kd.R_below HR6.out hbr)
    have HK7 := Aside0.mk ((hbr.block _ (blk_lt HK6.out)).trans HK6.out)
    have HB47 := Aside0.mk ((hb_.block _ (blk_lt HB4.out)).trans HB4.out)
    have HC := Aside0.mk hC
    have HCELL := Aside0.mk hcell
    have HYS := Aside0.mk hys
    clear hb_ hbr hC hcell hys HR6 HK6 HB4 HB6
    apply hK5
    refine wp_block ((wpIn_wide (n := 3)).1 ?_)
    refine rangeJ (gf := 171) (lb := #[.pointer (some ⟨bs, 0, none⟩)]) rfl (enters_of Tryz.func171 (by kernel_rfl) rfl) (each1_seq bs W w7 A' c' ys HC.out HB.out HCELL.out) HB.out.size (Below.refl _ _) (fun _ => rfl)
      (fun pre W' => (∃ v, W'.heap[b6]? = some (.cells #[v] 22 (0, 0)) ∧ Kd.R k43 43 W' W.heap.size (fun _ => True) v (overH l from_ ++ overT from_ pre)) ∧ W'.heap[b4]? = some (.cells #[.int .i64 from_] 2 (0, 0)) ∧ Below W.heap.size W W') (fun _ _ _ => False) ?hI (fun _ _ _ _ _ hs _ _ => hs) ?h0
      (fun y a' W' => ∃ b10, W'.heap[b10]? = some (.cells #[.int .i64 y.f1.f0.f0, .int .i64 y.f1.f0.f1, .int .i64 y.f1.f1, .int .i64 y.f1.f2, .int .i64 y.f1.f3, .bool y.f1.f4] 43 (0, 0)) ∧ a' = { tmps := #[.pointer (some ⟨cb, 0, none⟩), .int .i64 from_, .int .i64 to_, x3, .pointer (some ⟨b4, 0, none⟩), x5, .pointer (some ⟨b6, 0, none⟩), x7, x8, .int .i64 y.f0, .pointer (some ⟨b10, 0, none⟩), x11, x12, x13, x14, x15, x16, x17, x18, x19, x20, x21, x22, x23, x24, x25, x26, x27, x28, .pointer (some ⟨cb, 0, none⟩), .pointer (some ⟨cb, 0, none⟩), .pointer (some ⟨cb, 0, none⟩), .pointer (some ⟨ob, 0, none⟩), .int .i64 from_, .int .i64 to_, .func (.func 171) #[] #[.pointer (some ⟨bs, 0, none⟩)], .int .i64 y.f0, .agg #[.int .i64 y.f1.f0.f0, .int .i64 y.f1.f0.f1, .int .i64 y.f1.f1, .int .i64 y.f1.f2, .int .i64 y.f1.f3, .bool y.f1.f4], x38, x39, x40, x41, x42, x43, x44, x45], defers := [] }) ?hAx ?assign ?body ?done ?stop
    case hI =>
      rintro pre X Y row ⟨⟨v, h1, h2⟩, h3, h4⟩ hg hr
      exact ⟨⟨v, blk_turn h1 hg (fun r e => (hr r e).2), R_turn h2 hg (fun r e => (hr r e).2)⟩, blk_turn h3 hg (fun r e => (hr r e).2), h4.grown hg h4.size (fun k e => by have := (hr k e).1; have := HB.out.size; omega)⟩
    case h0 => exact ⟨⟨v, HK7.out, by rw [show overT from_ [] = [] from rfl, List.append_nil]; exact HR7.out⟩, HB47.out, HB.out⟩
    case hAx =>
      rintro x a' _ X Y row ⟨b10, h5, rfl⟩ hg hr
      exact ⟨b10, blk_turn h5 hg (fun r e => (hr r e).2), rfl⟩
    case assign =>
      rintro q pre y W5 K hsz ⟨⟨v, hb6, hR⟩, hb4, hB⟩ hK
      have HB5 := Aside0.mk hB
      clear HB HK7 HB47 HR7 HC HCELL
      have HK := Aside0.mk hK
      have Kb6 := Aside0.mk hb6
      have Kb4 := Aside0.mk hb4
      have HR := Aside0.mk hR
      have HB := Aside0.mk (Below.refl W5.heap.size W5)
      clear hb6 hb4 hR hB hK
      simp only [encP]
      refine wpIn_seq_k (fun K6 hK6 => ?_)
      refine regionIn_lit (by kernel_rfl) (fun ⟨_, _, h⟩ => h) ?_
      go_wp2
      refine regionIn_lit (by kernel_rfl) (fun ⟨_, _, h⟩ => h) ?_
      go_wp2_with (first
      | ((with_reducible refine gate_dst (N := 10) rfl ?_); refine box_event ?hg (N := 10) ?hd (cs := #[.int .i64 0, .int .i64 0, .int .i64 0, .int .i64 0, .int .i64 0, .bool false]) (t := 43) ?hr ?_; (case hd => rfl); (case hg => rfl); (case hr => first | (go_simp; done) | (go_simp; rfl)); intro b10 hb10 w1_ Kb10 hb_; have Gb10 := Aside0.mk (by rw [hb10]; exact HB.out.size : W5.heap.size ≤ b10); replace HB := Aside0.mk (below_step HB.out hb_); clear hb10; clear hb_; replace Kb10 := Aside0.mk Kb10)
      | (refine store_agg rfl 43 (.tmp 10) (.tmp 37) rfl rfl b10 #[.int .i64 y.f1.f0.f0, .int .i64 y.f1.f0.f1, .int .i64 y.f1.f1, .int .i64 y.f1.f2, .int .i64 y.f1.f3, .bool y.f1.f4] 43 _ rfl rfl Kb10.out size43 rfl (by simp [Value.oneCell']) ?_; intro w2_ k_ g_; replace HB := Aside0.mk (HB.out.grown g_ HB.out.size (fun r e => by cases e; exact Gb10.out)); clear Kb10; have Kb10 := Aside0.mk k_; clear k_ g_)
      | fail)
      exact HK.out _ _ ((keeps_below HB.out).from _) (HB.out.mono HB5.out.size) ⟨⟨v, (HB.out.block _ (blk_lt Kb6.out)).trans Kb6.out, Kd.R_below HR.out HB.out⟩, (HB.out.block _ (blk_lt Kb4.out)).trans Kb4.out, below_step HB5.out HB.out⟩ ⟨b10, Kb10.out, rfl⟩
    case body =>
      rintro q pre y a' W5 hl hlt ⟨⟨v, hb6, hR⟩, hb4, hB⟩ ⟨b10, h10, rfl⟩ hN
      have HB5 := Aside0.mk hB
      clear HB HK7 HB47 HR7 HC HCELL
      have Kb6 := Aside0.mk hb6
      have Kb4 := Aside0.mk hb4
      have Kb10 := Aside0.mk h10
      have HR := Aside0.mk hR
      have KO := Aside0.mk (KeepsOthers.refl W5)
      have cb4_0 : W5.cell? ⟨b4, 0, none⟩ = some (.int .i64 from_) := (blk_cell hb4 0).trans rfl
      have HLB := Aside0.mk (show ((overH l from_ ++ overT from_ pre).length + 1) * 48 ≤ 140737488355328 by
        have h1 : (overH l from_).length ≤ 1 := by unfold overH; split <;> simp
        have h2 : (overT from_ pre).length ≤ pre.length := by unfold overT; rw [List.length_map]; exact List.length_filter_le _ _
        have h3 : ys.length ≤ l.length := by rw [HYS.out, List.length_drop, List.length_take]; omega
        have := HSL.out
        rw [List.length_append]; omega)
      clear hb6 hb4 hR h10 hl hlt hN
      by_cases hf : y.f0 = from_
      · have HB := Aside0.mk hB
        clear hB
        gi_wp2_with fail
        have e0 : overT from_ (pre ++ [y]) = overT from_ pre := by simp [overT, List.filter_append, hf]
        exact ⟨(KeepsOthers.refl W5).from _, Below.refl _ _, ⟨v, Kb6.out, by rw [e0]; exact HR.out⟩, Kb4.out, HB.out⟩
      · have HB := Aside0.mk hB
        clear hB
        gi_upto_region 10 with fail
        obtain ⟨A0, n0, c0, hv0⟩ := R_slice' HR.out
        subst hv0
        have cb6_0 := (blk_cell Kb6.out 0).trans (show #[_][0]? = some _ from rfl)
        have cb10_0 := blk_cell Kb10.out 0; have cb10_1 := blk_cell Kb10.out 1; have cb10_2 := blk_cell Kb10.out 2; have cb10_3 := blk_cell Kb10.out 3; have cb10_4 := blk_cell Kb10.out 4; have cb10_5 := blk_cell Kb10.out 5; simp only [List.getElem?_toArray, List.getElem?_cons_zero, List.getElem?_cons_succ] at cb10_0 cb10_1 cb10_2 cb10_3 cb10_4 cb10_5
        have e0 : overT from_ (pre ++ [y]) = overT from_ pre ++ [y.f1] := by simp [overT, List.filter_append, hf]
        have E0 := Aside0.mk e0
        clear e0
        refine regionIn_lit (by kernel_rfl) (fun ⟨_, _, h⟩ => h) ?_
        have Nb4_b6 := Aside0.mk (show b4 = b6 → False from blk_ne Kb4.out Kb6.out (by decide))
        go_wp2_with (first
      | ((with_reducible refine gate_dst (N := 43) rfl ?_); refine brow_event ?hg (N := 43) ?hd (cs := #[.int .i64 y.f1.f0.f0, .int .i64 y.f1.f0.f1, .int .i64 y.f1.f1, .int .i64 y.f1.f2, .int .i64 y.f1.f3, .bool y.f1.f4]) (t := 43) (n := 1) ?hr ?_; (case hd => rfl); (case hg => rfl); (case hr => first | (go_simp; done) | (go_simp; rfl)); intro b43 hb43 w6_ Kb43 hb_; have Gb43 := Aside0.mk (by rw [hb43]; exact HB.out.size : W.heap.size ≤ b43); have Nb4_b43 := Aside0.mk (fun e => by have := blk_lt Kb4.out; omega : b4 ≠ b43); have Nb6_b43 := Aside0.mk (fun e => by have := blk_lt Kb6.out; omega : b6 ≠ b43); have Nb10_b43 := Aside0.mk (fun e => by have := blk_lt Kb10.out; omega : b10 ≠ b43); replace KO := Aside0.mk (KO.out.trans (keeps_below hb_)); replace HB := Aside0.mk (below_step HB.out hb_); clear hb43; replace Kb4 := Aside0.mk ((hb_.block _ (blk_lt Kb4.out)).trans Kb4.out); replace Kb6 := Aside0.mk ((hb_.block _ (blk_lt Kb6.out)).trans Kb6.out); replace Kb10 := Aside0.mk ((hb_.block _ (blk_lt Kb10.out)).trans Kb10.out); replace HR := Aside0.mk (Kd.R_below HR.out hb_); replace cb6_0 := pw_cell_below hb_ cb6_0; clear hb_; replace Kb43 := Aside0.mk Kb43)
      | ((with_reducible refine gate_dst (N := 44) rfl ?_); refine Kd.R_append_rows k43 (w0 := W) W.heap.size rfl (.tmp 41) (.tmp 43) 22 43 (.agg #[(.int .i64 0), (.int .i64 0), (.int .i64 0), (.int .i64 0), (.int .i64 0), (.bool false)]) 48 rfl Tryz.underlying22 info43 rfl (by decide) (by omega) (.slice A0 n0 c0) (overH l from_ ++ overT from_ pre) [y.f1] (some ⟨b43, 0, none⟩) 1 1 (fun _ => True) (fun _ => False) rfl rfl HR.out ((fun h => reads_row (d := k43) (p := y.f1) (cs := [.int .i64 y.f1.f0.f0, .int .i64 y.f1.f0.f1, .int .i64 y.f1.f1, .int .i64 y.f1.f2, .int .i64 y.f1.f3, .bool y.f1.f4]) h rfl) Kb43.out) (fun _ _ h => by obtain ⟨rfl, rfl⟩ := h; exact k43_mkM _ _ _ _) (fun _ h => h.elim) (fun _ _ => trivial) HB.out HB.out.size HLB.out ?_; intro v1 w7_ hR1 hb1 hg1 _; replace Kb4 := Aside0.mk (blk_grown Kb4.out hg1 (Kd.R_ne HR.out Kb4.out (by decide))); replace Kb6 := Aside0.mk (blk_grown Kb6.out hg1 (Kd.R_ne HR.out Kb6.out (by decide))); replace KO := Aside0.mk (KO.out.trans (keeps_grown hg1 (fun k hk => by obtain ⟨_, ho⟩ := Kd.R_own HR.out; obtain ⟨cells, hc⟩ := own_typed ho k hk; exact ⟨_, _, _, hc⟩))); clear HR HB Kb43; have HR := Aside0.mk hR1; have HB := Aside0.mk hb1; clear hR1 hb1 hg1; clear cb6_0; obtain ⟨A1, n1, c1, hv1⟩ := R_slice' HR.out; subst hv1)
      | (refine store_one rfl 22 (.tmp 6) (.tmp 44) rfl rfl b6 (.slice A1 n1 c1) 22 _ rfl rfl Kb6.out size22 (by simp [Value.oneCell']) ?_; intro w8_ k_ g_; replace HB := Aside0.mk (HB.out.grown g_ HB.out.size (fun r e => by cases e; exact Gb6.out)); replace KO := Aside0.mk (KO.out.trans (keeps_grown g_ (fun k e => by cases e; exact ⟨_, _, _, Kb6.out⟩))); replace HR := Aside0.mk (R_other HR.out Kb6.out (by decide) g_); replace Kb4 := Aside0.mk (blk_grown Kb4.out g_ (fun e => by cases e; exact Nb4_b6.out rfl)); clear Kb6; have Kb6 := Aside0.mk k_; clear k_ g_)
      | fail)
        exact ⟨KO.out.from _, below_back HB5.out HB.out KO.out.1, ⟨_, Kb6.out, by rw [E0.out, ← List.append_assoc]; exact HR.out⟩, Kb4.out, HB.out⟩
    case done =>
      rintro D xs W9 hD rfl ⟨⟨v, hb6, hR⟩, hb4, hB⟩ hK
      have HB' := Aside0.mk hB
      have HD := Aside0.mk (Nat.le_trans HB.out.size hD)
      have HYS' := HYS
      clear HB HK7 HB47 HR7 HC HCELL
      have HB := HB'
      have Kb6 := Aside0.mk hb6
      have HR := Aside0.mk hR
      have KO := Aside0.mk (KeepsOthers.refl W9)
      have HK := Aside0.mk hK
      obtain ⟨A0, n0, c0, hv0⟩ := R_slice' HR.out
      subst hv0
      have cb6_0 := (blk_cell Kb6.out 0).trans (show #[_][0]? = some _ from rfl)
      clear hb6 hb4 hR hB hK hD HB'
      apply hK4
      go_wp2_with (first
      | (refine store_one rfl 22 (.tmp 6) (.tmp 45) rfl rfl b6 (.slice A0 n0 c0) 22 _ rfl rfl Kb6.out size22 (by simp [Value.oneCell']) ?_; intro w10 k_ g_; replace HB := Aside0.mk (HB.out.grown g_ HB.out.size (fun r e => by cases e; exact Gb6.out)); replace KO := Aside0.mk (KO.out.trans (keeps_grown g_ (fun k e => by cases e; exact ⟨_, _, _, Kb6.out⟩))); replace HR := Aside0.mk (R_other HR.out Kb6.out (by decide) g_); clear Kb6; have Kb6 := Aside0.mk k_; clear k_ g_; clear cb6_0)
      | fail)
      have hD' := KO.out.2 D _ HK.out rfl
      have hne : ∀ r, some D = some r → ∃ o : Obj, w10.heap[r]? = some o ∧ o.isCells = false := fun r e => by cases e; exact ⟨_, hD', rfl⟩
      refine ⟨by simp, .inl ⟨_, _, rfl, run_takeDeferred hD', ?_⟩⟩
      exact ⟨_, results_c1 rfl _ _ b6 _ _ _ Tryz.underlying22 rfl (blk_turn Kb6.out (grownBy_putObj' _ D _) hne), _, rfl, by rw [overP, ← HYS'.out]; exact R_turn HR.out (grownBy_putObj' _ D _) hne, HB.out.grown (grownBy_putObj' _ D _) HB.out.size (fun k e => by cases e; exact HD.out)⟩
    case stop =>
      rintro D c' pre W9 _ _ h _
      exact h.elim
  cases hi : atI l from_
  case false =>
    have HN := Aside0.mk (Kd.R_nil k43 43 w5 W.heap.size (fun _ => True))
    have HI := Aside0.mk hi
    clear hi
    go_wp2
    refine J _ _ _ _ _ _ _ _ _ _ _ _ _ _ _ _ _ _ _ _ _ _ _ _ _ _ _ _ _ _ _ _ _ _ _ _ _ _ _ _ _ _ _ ?_ Kb6.out Kb4.out HB.out
    rw [overH, HI.out, if_neg (by decide)]; exact HN.out
  case true =>
    have HR := Aside0.mk (Kd.R_nil k43 43 w5 W.heap.size (fun _ => True))
    have HI := Aside0.mk hi
    clear hi
    have Nb4_b6 := Aside0.mk (show b4 = b6 → False from blk_ne Kb4.out Kb6.out (by decide))
    go_wp2_with (first
      | ((with_reducible refine gate_dst (N := 27) rfl ?_); refine brow_event ?hg (N := 27) ?hd (cs := #[.int .i64 (atD l from_).f0.f0, .int .i64 (atD l from_).f0.f1, .int .i64 (atD l from_).f1, .int .i64 (atD l from_).f2, .int .i64 (atD l from_).f3, .bool (atD l from_).f4]) (t := 43) (n := 1) ?hr ?_; (case hd => rfl); (case hg => rfl); (case hr => first | (go_simp; done) | (go_simp; rfl)); intro b27 hb27 w6 Kb27 hb_; have Gb27 := Aside0.mk (by rw [hb27]; exact HB.out.size : W.heap.size ≤ b27); have Nb4_b27 := Aside0.mk (fun e => by have := blk_lt Kb4.out; omega : b4 ≠ b27); have Nb6_b27 := Aside0.mk (fun e => by have := blk_lt Kb6.out; omega : b6 ≠ b27); replace HB := Aside0.mk (below_step HB.out hb_); clear hb27; replace Kb4 := Aside0.mk ((hb_.block _ (blk_lt Kb4.out)).trans Kb4.out); replace Kb6 := Aside0.mk ((hb_.block _ (blk_lt Kb6.out)).trans Kb6.out); replace cb4_0 := pw_cell_below hb_ cb4_0; replace cb6_0 := pw_cell_below hb_ cb6_0; replace HR := Aside0.mk (Kd.R_below HR.out hb_); clear hb_; replace Kb27 := Aside0.mk Kb27)
      | ((with_reducible refine gate_dst (N := 28) rfl ?_); refine Kd.R_append_rows k43 (w0 := W) W.heap.size rfl (.tmp 25) (.tmp 27) 22 43 (.agg #[(.int .i64 0), (.int .i64 0), (.int .i64 0), (.int .i64 0), (.int .i64 0), (.bool false)]) 48 rfl Tryz.underlying22 info43 rfl (by decide) (by omega) (.slice none 0 0) [] [(atD l from_)] (some ⟨b27, 0, none⟩) 1 1 (fun _ => True) (fun _ => False) rfl rfl HR.out ((fun h => reads_row (d := k43) (p := atD l from_) (cs := [.int .i64 (atD l from_).f0.f0, .int .i64 (atD l from_).f0.f1, .int .i64 (atD l from_).f1, .int .i64 (atD l from_).f2, .int .i64 (atD l from_).f3, .bool (atD l from_).f4]) h rfl) Kb27.out) (fun _ _ h => by obtain ⟨rfl, rfl⟩ := h; exact k43_mkM _ _ _ _) (fun _ h => h.elim) (fun _ _ => trivial) HB.out HB.out.size (by decide) ?_; intro v1 w7 hR1 hb1 hg1 _; replace Kb4 := Aside0.mk (blk_grown Kb4.out hg1 (Kd.R_ne HR.out Kb4.out (by decide))); replace Kb6 := Aside0.mk (blk_grown Kb6.out hg1 (Kd.R_ne HR.out Kb6.out (by decide))); clear HR HB Kb27; have HR := Aside0.mk hR1; have HB := Aside0.mk hb1; clear hR1 hb1 hg1; clear cb4_0; clear cb6_0; obtain ⟨A1, n1, c1, hv1⟩ := R_slice' HR.out; subst hv1)
      | (refine store_one rfl 22 (.tmp 6) (.tmp 28) rfl rfl b6 (.slice A1 n1 c1) 22 _ rfl rfl Kb6.out size22 (by simp [Value.oneCell']) ?_; intro w8 k_ g_; replace HB := Aside0.mk (HB.out.grown g_ HB.out.size (fun r e => by cases e; exact Gb6.out)); replace HR := Aside0.mk (R_other HR.out Kb6.out (by decide) g_); replace Kb4 := Aside0.mk (blk_grown Kb4.out g_ (fun e => by cases e; exact Nb4_b6.out rfl)); clear Kb6; have Kb6 := Aside0.mk k_; clear k_ g_)
      | fail)
    refine J _ _ _ _ _ _ _ _ _ _ _ _ _ _ _ _ _ _ _ _ _ _ _ _ _ _ _ _ _ _ _ _ _ _ _ _ _ _ _ _ _ _ _ ?_ Kb6.out Kb4.out HB.out
    rw [overH, HI.out, if_pos rfl]; exact HR.out
end Go.Proofs.YthhmfeiefbnhcaaGreat.Due
namespace Go.Proofs.YthhmfeiefbnhcaaGreat.Due
open Go.RowKit Go.Proofs.YthhmfeiefbnhcaaGreat.PDueParts Go.Proofs.YthhmfeiefbnhcaaGreatW.PrintWords Go.Proofs.YthhmfeiefbnhcaaGreatW.PrintLast
set_option linter.unusedVariables false
set_option linter.unusedSimpArgs false
def inB (n lo : Int) : Bool := decide (lo ≤ n) && decide (n ≤ 4611686018427387904)
def rightE (x : S43) : Bool := rightP x.f0.f0 x.f0.f1 && (inB x.f1 1 && (inB x.f3 1 && (inB x.f2 0 && (decide (x.f0.f0 = 3) || !x.f4))))
set_option maxHeartbeats 1000000 in
theorem in_calls (W : World) (n lo : Int) : Calls Tryz.prog 138 #[.int .i64 n, .int .i64 lo] W fun e w' => e = .returned (.bool (inB n lo)) ∧ Below W.heap.size W w' := by
  by_cases c : lo ≤ n
  · go_enter Tryz.func138, Tryz.ntmps138
    go_wp2
    go_ret
    exact ⟨by rw [inB, decide_eq_true c, Bool.true_and]; rfl, Below.refl _ _⟩
  · go_enter Tryz.func138, Tryz.ntmps138
    go_wp2
    go_ret
    exact ⟨by rw [inB, decide_eq_false (by omega)]; rfl, Below.refl _ _⟩
set_option maxRecDepth 100000 in
set_option maxHeartbeats 2000000 in
theorem cright_calls (W : World) (x : S43) : Calls Tryz.prog 103 #[.agg #[.int .i64 x.f0.f0, .int .i64 x.f0.f1, .int .i64 x.f1, .int .i64 x.f2, .int .i64 x.f3, .bool x.f4]] W fun e w' => e = .returned (.bool (rightE x)) ∧ Below W.heap.size W w' := by
  have HB := Aside0.mk (Below.refl W.heap.size W)
  cases h0 : rightP x.f0.f0 x.f0.f1
  case false =>
    have HR := Aside0.mk h0
    clear h0
    go_enter Tryz.func103, Tryz.ntmps103
    go_wp2_with (first
          | ((with_reducible refine gate_dst (N := 1) rfl ?_); refine box_event ?hg (N := 1) ?hd (cs := #[.int .i64 x.f0.f0, .int .i64 x.f0.f1, .int .i64 x.f1, .int .i64 x.f2, .int .i64 x.f3, .bool x.f4]) (t := 43) ?hr ?_; (case hd => rfl); (case hg => rfl); (case hr => first | (go_simp; done) | (go_simp; rfl)); intro b1 hb1 w1 Kb1 hb_; have Gb1 := Aside0.mk (by rw [hb1]; exact HB.out.size : W.heap.size ≤ b1); replace HB := Aside0.mk (below_step HB.out hb_); clear hb1; clear hb_; have cb1_0 := blk_cell Kb1 0; have cb1_1 := blk_cell Kb1 1; have cb1_2 := blk_cell Kb1 2; have cb1_3 := blk_cell Kb1 3; have cb1_4 := blk_cell Kb1 4; have cb1_5 := blk_cell Kb1 5; simp only [List.getElem?_toArray, List.getElem?_cons_zero, List.getElem?_cons_succ] at cb1_0 cb1_1 cb1_2 cb1_3 cb1_4 cb1_5; replace Kb1 := Aside0.mk Kb1)
          | (go_at_call 81; refine (right_calls _ _ _).mono ?_; rintro e w2 ⟨rfl, hb_⟩; replace HB := Aside0.mk (below_step HB.out hb_); replace cb1_0 := pw_cell_below hb_ cb1_0; replace cb1_1 := pw_cell_below hb_ cb1_1; replace cb1_2 := pw_cell_below hb_ cb1_2; replace cb1_3 := pw_cell_below hb_ cb1_3; replace cb1_4 := pw_cell_below hb_ cb1_4; replace cb1_5 := pw_cell_below hb_ cb1_5; clear hb_; rw [HR.out])
          | (go_at_call 138; refine (in_calls _ _ _).mono ?_; rintro e w3 ⟨rfl, hb_⟩; replace HB := Aside0.mk (below_step HB.out hb_); replace cb1_0 := pw_cell_below hb_ cb1_0; replace cb1_1 := pw_cell_below hb_ cb1_1; replace cb1_2 := pw_cell_below hb_ cb1_2; replace cb1_3 := pw_cell_below hb_ cb1_3; replace cb1_4 := pw_cell_below hb_ cb1_4; replace cb1_5 := pw_cell_below hb_ cb1_5; clear hb_; (try rw [H1.out]); (try rw [H2.out]); (try rw [H3.out]))
          | fail)
    go_ret
    exact ⟨by rw [rightE, HR.out]; rfl, HB.out⟩
  case true =>
    have HR := Aside0.mk h0
    cases h1 : inB x.f1 1
    case false =>
      have H1 := Aside0.mk h1
      clear h0 h1
      go_enter Tryz.func103, Tryz.ntmps103
      go_wp2_with (first
            | ((with_reducible refine gate_dst (N := 1) rfl ?_); refine box_event ?hg (N := 1) ?hd (cs := #[.int .i64 x.f0.f0, .int .i64 x.f0.f1, .int .i64 x.f1, .int .i64 x.f2, .int .i64 x.f3, .bool x.f4]) (t := 43) ?hr ?_; (case hd => rfl); (case hg => rfl); (case hr => first | (go_simp; done) | (go_simp; rfl)); intro b1 hb1 w1 Kb1 hb_; have Gb1 := Aside0.mk (by rw [hb1]; exact HB.out.size : W.heap.size ≤ b1); replace HB := Aside0.mk (below_step HB.out hb_); clear hb1; clear hb_; have cb1_0 := blk_cell Kb1 0; have cb1_1 := blk_cell Kb1 1; have cb1_2 := blk_cell Kb1 2; have cb1_3 := blk_cell Kb1 3; have cb1_4 := blk_cell Kb1 4; have cb1_5 := blk_cell Kb1 5; simp only [List.getElem?_toArray, List.getElem?_cons_zero, List.getElem?_cons_succ] at cb1_0 cb1_1 cb1_2 cb1_3 cb1_4 cb1_5; replace Kb1 := Aside0.mk Kb1)
            | (go_at_call 81; refine (right_calls _ _ _).mono ?_; rintro e w2 ⟨rfl, hb_⟩; replace HB := Aside0.mk (below_step HB.out hb_); replace cb1_0 := pw_cell_below hb_ cb1_0; replace cb1_1 := pw_cell_below hb_ cb1_1; replace cb1_2 := pw_cell_below hb_ cb1_2; replace cb1_3 := pw_cell_below hb_ cb1_3; replace cb1_4 := pw_cell_below hb_ cb1_4; replace cb1_5 := pw_cell_below hb_ cb1_5; clear hb_; rw [HR.out])
            | (go_at_call 138; refine (in_calls _ _ _).mono ?_; rintro e w3 ⟨rfl, hb_⟩; replace HB := Aside0.mk (below_step HB.out hb_); replace cb1_0 := pw_cell_below hb_ cb1_0; replace cb1_1 := pw_cell_below hb_ cb1_1; replace cb1_2 := pw_cell_below hb_ cb1_2; replace cb1_3 := pw_cell_below hb_ cb1_3; replace cb1_4 := pw_cell_below hb_ cb1_4; replace cb1_5 := pw_cell_below hb_ cb1_5; clear hb_; (try rw [H1.out]); (try rw [H2.out]); (try rw [H3.out]))
            | fail)
      go_ret
      exact ⟨by rw [rightE, HR.out, H1.out]; rfl, HB.out⟩
    case true =>
      have H1 := Aside0.mk h1
      cases h2 : inB x.f3 1
      case false =>
        have H2 := Aside0.mk h2
        clear h0 h1 h2
        go_enter Tryz.func103, Tryz.ntmps103
        go_wp2_with (first
              | ((with_reducible refine gate_dst (N := 1) rfl ?_); refine box_event ?hg (N := 1) ?hd (cs := #[.int .i64 x.f0.f0, .int .i64 x.f0.f1, .int .i64 x.f1, .int .i64 x.f2, .int .i64 x.f3, .bool x.f4]) (t := 43) ?hr ?_; (case hd => rfl); (case hg => rfl); (case hr => first | (go_simp; done) | (go_simp; rfl)); intro b1 hb1 w1 Kb1 hb_; have Gb1 := Aside0.mk (by rw [hb1]; exact HB.out.size : W.heap.size ≤ b1); replace HB := Aside0.mk (below_step HB.out hb_); clear hb1; clear hb_; have cb1_0 := blk_cell Kb1 0; have cb1_1 := blk_cell Kb1 1; have cb1_2 := blk_cell Kb1 2; have cb1_3 := blk_cell Kb1 3; have cb1_4 := blk_cell Kb1 4; have cb1_5 := blk_cell Kb1 5; simp only [List.getElem?_toArray, List.getElem?_cons_zero, List.getElem?_cons_succ] at cb1_0 cb1_1 cb1_2 cb1_3 cb1_4 cb1_5; replace Kb1 := Aside0.mk Kb1)
              | (go_at_call 81; refine (right_calls _ _ _).mono ?_; rintro e w2 ⟨rfl, hb_⟩; replace HB := Aside0.mk (below_step HB.out hb_); replace cb1_0 := pw_cell_below hb_ cb1_0; replace cb1_1 := pw_cell_below hb_ cb1_1; replace cb1_2 := pw_cell_below hb_ cb1_2; replace cb1_3 := pw_cell_below hb_ cb1_3; replace cb1_4 := pw_cell_below hb_ cb1_4; replace cb1_5 := pw_cell_below hb_ cb1_5; clear hb_; rw [HR.out])
              | (go_at_call 138; refine (in_calls _ _ _).mono ?_; rintro e w3 ⟨rfl, hb_⟩; replace HB := Aside0.mk (below_step HB.out hb_); replace cb1_0 := pw_cell_below hb_ cb1_0; replace cb1_1 := pw_cell_below hb_ cb1_1; replace cb1_2 := pw_cell_below hb_ cb1_2; replace cb1_3 := pw_cell_below hb_ cb1_3; replace cb1_4 := pw_cell_below hb_ cb1_4; replace cb1_5 := pw_cell_below hb_ cb1_5; clear hb_; (try rw [H1.out]); (try rw [H2.out]); (try rw [H3.out]))
              | fail)
        go_ret
        exact ⟨by rw [rightE, HR.out, H1.out, H2.out]; rfl, HB.out⟩
      case true =>
        have H2 := Aside0.mk h2
        cases h3 : inB x.f2 0
        case false =>
          have H3 := Aside0.mk h3
          clear h0 h1 h2 h3
          go_enter Tryz.func103, Tryz.ntmps103
          go_wp2_with (first
                | ((with_reducible refine gate_dst (N := 1) rfl ?_); refine box_event ?hg (N := 1) ?hd (cs := #[.int .i64 x.f0.f0, .int .i64 x.f0.f1, .int .i64 x.f1, .int .i64 x.f2, .int .i64 x.f3, .bool x.f4]) (t := 43) ?hr ?_; (case hd => rfl); (case hg => rfl); (case hr => first | (go_simp; done) | (go_simp; rfl)); intro b1 hb1 w1 Kb1 hb_; have Gb1 := Aside0.mk (by rw [hb1]; exact HB.out.size : W.heap.size ≤ b1); replace HB := Aside0.mk (below_step HB.out hb_); clear hb1; clear hb_; have cb1_0 := blk_cell Kb1 0; have cb1_1 := blk_cell Kb1 1; have cb1_2 := blk_cell Kb1 2; have cb1_3 := blk_cell Kb1 3; have cb1_4 := blk_cell Kb1 4; have cb1_5 := blk_cell Kb1 5; simp only [List.getElem?_toArray, List.getElem?_cons_zero, List.getElem?_cons_succ] at cb1_0 cb1_1 cb1_2 cb1_3 cb1_4 cb1_5; replace Kb1 := Aside0.mk Kb1)
                | (go_at_call 81; refine (right_calls _ _ _).mono ?_; rintro e w2 ⟨rfl, hb_⟩; replace HB := Aside0.mk (below_step HB.out hb_); replace cb1_0 := pw_cell_below hb_ cb1_0; replace cb1_1 := pw_cell_below hb_ cb1_1; replace cb1_2 := pw_cell_below hb_ cb1_2; replace cb1_3 := pw_cell_below hb_ cb1_3; replace cb1_4 := pw_cell_below hb_ cb1_4; replace cb1_5 := pw_cell_below hb_ cb1_5; clear hb_; rw [HR.out])
                | (go_at_call 138; refine (in_calls _ _ _).mono ?_; rintro e w3 ⟨rfl, hb_⟩; replace HB := Aside0.mk (below_step HB.out hb_); replace cb1_0 := pw_cell_below hb_ cb1_0; replace cb1_1 := pw_cell_below hb_ cb1_1; replace cb1_2 := pw_cell_below hb_ cb1_2; replace cb1_3 := pw_cell_below hb_ cb1_3; replace cb1_4 := pw_cell_below hb_ cb1_4; replace cb1_5 := pw_cell_below hb_ cb1_5; clear hb_; (try rw [H1.out]); (try rw [H2.out]); (try rw [H3.out]))
                | fail)
          go_ret
          exact ⟨by rw [rightE, HR.out, H1.out, H2.out, H3.out]; rfl, HB.out⟩
        case true =>
          have H3 := Aside0.mk h3
          clear h0 h1 h2 h3
          go_enter Tryz.func103, Tryz.ntmps103
          go_wp2_with (first
                | ((with_reducible refine gate_dst (N := 1) rfl ?_); refine box_event ?hg (N := 1) ?hd (cs := #[.int .i64 x.f0.f0, .int .i64 x.f0.f1, .int .i64 x.f1, .int .i64 x.f2, .int .i64 x.f3, .bool x.f4]) (t := 43) ?hr ?_; (case hd => rfl); (case hg => rfl); (case hr => first | (go_simp; done) | (go_simp; rfl)); intro b1 hb1 w1 Kb1 hb_; have Gb1 := Aside0.mk (by rw [hb1]; exact HB.out.size : W.heap.size ≤ b1); replace HB := Aside0.mk (below_step HB.out hb_); clear hb1; clear hb_; have cb1_0 := blk_cell Kb1 0; have cb1_1 := blk_cell Kb1 1; have cb1_2 := blk_cell Kb1 2; have cb1_3 := blk_cell Kb1 3; have cb1_4 := blk_cell Kb1 4; have cb1_5 := blk_cell Kb1 5; simp only [List.getElem?_toArray, List.getElem?_cons_zero, List.getElem?_cons_succ] at cb1_0 cb1_1 cb1_2 cb1_3 cb1_4 cb1_5; replace Kb1 := Aside0.mk Kb1)
                | (go_at_call 81; refine (right_calls _ _ _).mono ?_; rintro e w2 ⟨rfl, hb_⟩; replace HB := Aside0.mk (below_step HB.out hb_); replace cb1_0 := pw_cell_below hb_ cb1_0; replace cb1_1 := pw_cell_below hb_ cb1_1; replace cb1_2 := pw_cell_below hb_ cb1_2; replace cb1_3 := pw_cell_below hb_ cb1_3; replace cb1_4 := pw_cell_below hb_ cb1_4; replace cb1_5 := pw_cell_below hb_ cb1_5; clear hb_; rw [HR.out])
                | (go_at_call 138; refine (in_calls _ _ _).mono ?_; rintro e w3 ⟨rfl, hb_⟩; replace HB := Aside0.mk (below_step HB.out hb_); replace cb1_0 := pw_cell_below hb_ cb1_0; replace cb1_1 := pw_cell_below hb_ cb1_1; replace cb1_2 := pw_cell_below hb_ cb1_2; replace cb1_3 := pw_cell_below hb_ cb1_3; replace cb1_4 := pw_cell_below hb_ cb1_4; replace cb1_5 := pw_cell_below hb_ cb1_5; clear hb_; (try rw [H1.out]); (try rw [H2.out]); (try rw [H3.out]))
                | fail)
          · rename_i hc
            go_ret
            exact ⟨by rw [rightE, HR.out, H1.out, H2.out, H3.out, decide_eq_true hc]; rfl, HB.out⟩
          · go_ret
            exact ⟨by rw [rightE, HR.out, H1.out, H2.out, H3.out]; rfl, HB.out⟩
end Go.Proofs.YthhmfeiefbnhcaaGreat.Due
namespace Go.Proofs.YthhmfeiefbnhcaaGreat.Due
open Go.RowKit Go.Proofs.YthhmfeiefbnhcaaGreat.PDueParts Go.Proofs.YthhmfeiefbnhcaaGreatW.PrintWords Go.Proofs.YthhmfeiefbnhcaaGreatW.PrintLast
set_option linter.unusedVariables false
set_option linter.unusedSimpArgs false
structure CatOwn (w : World) (base cb ob : Nat) (l : List S183) : Prop where
  blk : w.heap[cb]? = some (.cells #[.pointer (some ⟨ob, 0, none⟩)] 134 (0, 0))
  map : MapOwn w base ob l
theorem CatOwn.below {w w1 : World} {base cb ob : Nat} {l : List S183} (h : CatOwn w base cb ob l) (hb : Below w.heap.size w w1) : CatOwn w1 base cb ob l :=
  ⟨(hb.block cb (blk_lt h.blk)).trans h.blk, h.map.below hb⟩
theorem CatOwn.at_ {w : World} {base cb ob : Nat} {l : List S183} (h : CatOwn w base cb ob l) : ∃ A c, CatAt w cb ob A c l := by
  obtain ⟨A, c, hm⟩ := h.map.at_
  exact ⟨A, c, h.blk, hm⟩
theorem CatOwn.ne {w : World} {base cb ob : Nat} {l : List S183} (h : CatOwn w base cb ob l) : cb ≠ ob := by
  obtain ⟨v, hv, _⟩ := h.map.own
  exact blk_ne h.blk hv (by decide)
theorem CatOwn.keep {w w1 : World} {base cb ob : Nat} {l l' : List S183} (h : CatOwn w base cb ob l) (hm : MapOwn w1 base ob l') (hk : KeepM ob w w1) : CatOwn w1 base cb ob l' :=
  ⟨hk.2 cb _ h.blk h.ne (by intro cs fr e; cases e), hm⟩
def cputP (l : List S183) (x : S43) : Int × List S183 :=
  if rightE x = true then (if overP l (fromP x.f0.f0 x.f0.f1) (endP x.f0.f0 x.f0.f1) = [] then (0, insAt l (fromP x.f0.f0 x.f0.f1) x) else (12, l)) else (4, l)
theorem right_lt {x : S43} (h : rightE x = true) : fromP x.f0.f0 x.f0.f1 < endP x.f0.f0 x.f0.f1 := by
  have hr : rightP x.f0.f0 x.f0.f1 = true := by unfold rightE at h; exact (Bool.and_eq_true_iff.1 h).1
  rw [fromP, endP, if_pos hr, if_pos hr]; exact (lo_bd hr).2.1
set_option maxRecDepth 100000 in
set_option maxHeartbeats 2000000 in
theorem cput_calls (W : World) (base cb ob : Nat) (l : List S183) (x : S43) (hm : CatOwn W base cb ob l) (hs : Rising l) (hsz : l.length ≤ 1000000) (hb : base ≤ W.heap.size)
    (hk : rightE x = true → overP l (fromP x.f0.f0 x.f0.f1) (endP x.f0.f0 x.f0.f1) = [] → hasKey l (fromP x.f0.f0 x.f0.f1) = false) :
    Calls Tryz.prog 66 #[.pointer (some ⟨cb, 0, none⟩), .agg #[.int .i64 x.f0.f0, .int .i64 x.f0.f1, .int .i64 x.f1, .int .i64 x.f2, .int .i64 x.f3, .bool x.f4]] W fun e w' =>
      e = .returned (.int .i64 (cputP l x).1) ∧ CatOwn w' base cb ob (cputP l x).2 ∧ KeepM ob W w' ∧ Below base W w' := by
  obtain ⟨A, c, hC⟩ := hm.at_
  have HM := Aside0.mk hm
  have HC := Aside0.mk hC
  have HS := Aside0.mk hs
  have HK := Aside0.mk hk
  have HBS := Aside0.mk hb
  have pc : W.cell? ⟨cb, 0, none⟩ = some (.pointer (some ⟨ob, 0, none⟩)) := (blk_cell hm.blk 0).trans rfl
  have HB := Aside0.mk (Below.refl W.heap.size W)
  clear hm hs hk hb hC
  cases hr : rightE x
  case false =>
    have HR := Aside0.mk hr
    have HE := Aside0.mk (show cputP l x = (4, l) by rw [cputP, hr, if_neg (by decide)])
    clear hr
    go_enter Tryz.func66, Tryz.ntmps66
    go_wp2_with (first
      | ((with_reducible refine gate_dst (N := 3) rfl ?_); refine box_event ?hg (N := 3) ?hd (cs := #[.int .i64 x.f0.f0, .int .i64 x.f0.f1, .int .i64 x.f1, .int .i64 x.f2, .int .i64 x.f3, .bool x.f4]) (t := 43) ?hr ?_; (case hd => rfl); (case hg => rfl); (case hr => first | (go_simp; done) | (go_simp; rfl)); intro b3 hb3 w1 Kb3 hb_; have Gb3 := Aside0.mk (by rw [hb3]; exact HB.out.size : W.heap.size ≤ b3); replace HB := Aside0.mk (below_step HB.out hb_); clear hb3; replace pc := pw_cell_below hb_ pc; clear hb_; have cb3_0 := blk_cell Kb3 0; have cb3_1 := blk_cell Kb3 1; have cb3_2 := blk_cell Kb3 2; have cb3_3 := blk_cell Kb3 3; have cb3_4 := blk_cell Kb3 4; have cb3_5 := blk_cell Kb3 5; simp only [List.getElem?_toArray, List.getElem?_cons_zero, List.getElem?_cons_succ] at cb3_0 cb3_1 cb3_2 cb3_3 cb3_4 cb3_5; replace Kb3 := Aside0.mk Kb3)
      | (go_at_call 103; refine (cright_calls _ _).mono ?_; rintro e w2 ⟨rfl, hb_⟩; replace HB := Aside0.mk (below_step HB.out hb_); replace cb3_0 := pw_cell_below hb_ cb3_0; replace cb3_1 := pw_cell_below hb_ cb3_1; replace cb3_2 := pw_cell_below hb_ cb3_2; replace cb3_3 := pw_cell_below hb_ cb3_3; replace cb3_4 := pw_cell_below hb_ cb3_4; replace cb3_5 := pw_cell_below hb_ cb3_5; replace pc := pw_cell_below hb_ pc; replace Kb3 := Aside0.mk ((hb_.block _ (blk_lt Kb3.out)).trans Kb3.out); clear hb_; rw [HR.out])
      | (go_at_call 39; refine (span_calls _ _ _).mono ?_; rintro e w3 ⟨rfl, hb_⟩; replace HB := Aside0.mk (below_step HB.out hb_); replace cb3_0 := pw_cell_below hb_ cb3_0; replace cb3_1 := pw_cell_below hb_ cb3_1; replace cb3_2 := pw_cell_below hb_ cb3_2; replace cb3_3 := pw_cell_below hb_ cb3_3; replace cb3_4 := pw_cell_below hb_ cb3_4; replace cb3_5 := pw_cell_below hb_ cb3_5; replace pc := pw_cell_below hb_ pc; replace Kb3 := Aside0.mk ((hb_.block _ (blk_lt Kb3.out)).trans Kb3.out); clear hb_)
      | (go_at_call 104; refine (over_calls _ cb ob A c l (fromP x.f0.f0 x.f0.f1) (endP x.f0.f0 x.f0.f1) (HC.out.below HB.out) HS.out hsz HLT.out).mono ?_; rintro e w4 ⟨vv, rfl, hRv, hb_⟩; replace HB := Aside0.mk (below_step HB.out hb_); replace cb3_0 := pw_cell_below hb_ cb3_0; replace cb3_1 := pw_cell_below hb_ cb3_1; replace cb3_2 := pw_cell_below hb_ cb3_2; replace cb3_3 := pw_cell_below hb_ cb3_3; replace cb3_4 := pw_cell_below hb_ cb3_4; replace cb3_5 := pw_cell_below hb_ cb3_5; replace pc := pw_cell_below hb_ pc; replace Kb3 := Aside0.mk ((hb_.block _ (blk_lt Kb3.out)).trans Kb3.out); clear hb_; obtain ⟨Av, cv, hv⟩ := Kd.R_slice hRv; clear hRv; subst hv; (try rw [HO.out]))
      | fail)
    go_ret
    rw [HE.out]
    exact ⟨rfl, HM.out.below HB.out, KeepM.of_below HB.out, HB.out.mono HBS.out⟩
  case true =>
    have HR := Aside0.mk hr
    have HLT := Aside0.mk (right_lt hr)
    clear hr
    by_cases ho : overP l (fromP x.f0.f0 x.f0.f1) (endP x.f0.f0 x.f0.f1) = []
    case neg =>
      have HE := Aside0.mk (show cputP l x = (12, l) by rw [cputP, HR.out, if_pos rfl, if_neg ho])
      have hpos : 0 < (overP l (fromP x.f0.f0 x.f0.f1) (endP x.f0.f0 x.f0.f1)).length := List.length_pos_iff.2 ho
      have HO := Aside0.mk (show 0 = 0 from rfl)
      clear ho
      go_enter Tryz.func66, Tryz.ntmps66
      go_wp2_with (first
      | ((with_reducible refine gate_dst (N := 3) rfl ?_); refine box_event ?hg (N := 3) ?hd (cs := #[.int .i64 x.f0.f0, .int .i64 x.f0.f1, .int .i64 x.f1, .int .i64 x.f2, .int .i64 x.f3, .bool x.f4]) (t := 43) ?hr ?_; (case hd => rfl); (case hg => rfl); (case hr => first | (go_simp; done) | (go_simp; rfl)); intro b3 hb3 w1 Kb3 hb_; have Gb3 := Aside0.mk (by rw [hb3]; exact HB.out.size : W.heap.size ≤ b3); replace HB := Aside0.mk (below_step HB.out hb_); clear hb3; replace pc := pw_cell_below hb_ pc; clear hb_; have cb3_0 := blk_cell Kb3 0; have cb3_1 := blk_cell Kb3 1; have cb3_2 := blk_cell Kb3 2; have cb3_3 := blk_cell Kb3 3; have cb3_4 := blk_cell Kb3 4; have cb3_5 := blk_cell Kb3 5; simp only [List.getElem?_toArray, List.getElem?_cons_zero, List.getElem?_cons_succ] at cb3_0 cb3_1 cb3_2 cb3_3 cb3_4 cb3_5; replace Kb3 := Aside0.mk Kb3)
      | (go_at_call 103; refine (cright_calls _ _).mono ?_; rintro e w2 ⟨rfl, hb_⟩; replace HB := Aside0.mk (below_step HB.out hb_); replace cb3_0 := pw_cell_below hb_ cb3_0; replace cb3_1 := pw_cell_below hb_ cb3_1; replace cb3_2 := pw_cell_below hb_ cb3_2; replace cb3_3 := pw_cell_below hb_ cb3_3; replace cb3_4 := pw_cell_below hb_ cb3_4; replace cb3_5 := pw_cell_below hb_ cb3_5; replace pc := pw_cell_below hb_ pc; replace Kb3 := Aside0.mk ((hb_.block _ (blk_lt Kb3.out)).trans Kb3.out); clear hb_; rw [HR.out])
      | (go_at_call 39; refine (span_calls _ _ _).mono ?_; rintro e w3 ⟨rfl, hb_⟩; replace HB := Aside0.mk (below_step HB.out hb_); replace cb3_0 := pw_cell_below hb_ cb3_0; replace cb3_1 := pw_cell_below hb_ cb3_1; replace cb3_2 := pw_cell_below hb_ cb3_2; replace cb3_3 := pw_cell_below hb_ cb3_3; replace cb3_4 := pw_cell_below hb_ cb3_4; replace cb3_5 := pw_cell_below hb_ cb3_5; replace pc := pw_cell_below hb_ pc; replace Kb3 := Aside0.mk ((hb_.block _ (blk_lt Kb3.out)).trans Kb3.out); clear hb_)
      | (go_at_call 104; refine (over_calls _ cb ob A c l (fromP x.f0.f0 x.f0.f1) (endP x.f0.f0 x.f0.f1) (HC.out.below HB.out) HS.out hsz HLT.out).mono ?_; rintro e w4 ⟨vv, rfl, hRv, hb_⟩; replace HB := Aside0.mk (below_step HB.out hb_); replace cb3_0 := pw_cell_below hb_ cb3_0; replace cb3_1 := pw_cell_below hb_ cb3_1; replace cb3_2 := pw_cell_below hb_ cb3_2; replace cb3_3 := pw_cell_below hb_ cb3_3; replace cb3_4 := pw_cell_below hb_ cb3_4; replace cb3_5 := pw_cell_below hb_ cb3_5; replace pc := pw_cell_below hb_ pc; replace Kb3 := Aside0.mk ((hb_.block _ (blk_lt Kb3.out)).trans Kb3.out); clear hb_; obtain ⟨Av, cv, hv⟩ := Kd.R_slice hRv; clear hRv; subst hv; (try rw [HO.out]))
      | fail)
      go_ret
      rw [HE.out]
      exact ⟨rfl, HM.out.below HB.out, KeepM.of_below HB.out, HB.out.mono HBS.out⟩
    case pos =>
      have HE := Aside0.mk (show cputP l x = (0, insAt l (fromP x.f0.f0 x.f0.f1) x) by rw [cputP, HR.out, if_pos rfl, if_pos ho])
      have HO := Aside0.mk ho
      have HKEY := Aside0.mk (HK.out HR.out ho)
      clear ho
      go_enter Tryz.func66, Tryz.ntmps66
      go_upto_region 6 with (first
      | ((with_reducible refine gate_dst (N := 3) rfl ?_); refine box_event ?hg (N := 3) ?hd (cs := #[.int .i64 x.f0.f0, .int .i64 x.f0.f1, .int .i64 x.f1, .int .i64 x.f2, .int .i64 x.f3, .bool x.f4]) (t := 43) ?hr ?_; (case hd => rfl); (case hg => rfl); (case hr => first | (go_simp; done) | (go_simp; rfl)); intro b3 hb3 w1 Kb3 hb_; have Gb3 := Aside0.mk (by rw [hb3]; exact HB.out.size : W.heap.size ≤ b3); replace HB := Aside0.mk (below_step HB.out hb_); clear hb3; replace pc := pw_cell_below hb_ pc; clear hb_; have cb3_0 := blk_cell Kb3 0; have cb3_1 := blk_cell Kb3 1; have cb3_2 := blk_cell Kb3 2; have cb3_3 := blk_cell Kb3 3; have cb3_4 := blk_cell Kb3 4; have cb3_5 := blk_cell Kb3 5; simp only [List.getElem?_toArray, List.getElem?_cons_zero, List.getElem?_cons_succ] at cb3_0 cb3_1 cb3_2 cb3_3 cb3_4 cb3_5; replace Kb3 := Aside0.mk Kb3)
      | (go_at_call 103; refine (cright_calls _ _).mono ?_; rintro e w2 ⟨rfl, hb_⟩; replace HB := Aside0.mk (below_step HB.out hb_); replace cb3_0 := pw_cell_below hb_ cb3_0; replace cb3_1 := pw_cell_below hb_ cb3_1; replace cb3_2 := pw_cell_below hb_ cb3_2; replace cb3_3 := pw_cell_below hb_ cb3_3; replace cb3_4 := pw_cell_below hb_ cb3_4; replace cb3_5 := pw_cell_below hb_ cb3_5; replace pc := pw_cell_below hb_ pc; replace Kb3 := Aside0.mk ((hb_.block _ (blk_lt Kb3.out)).trans Kb3.out); clear hb_; rw [HR.out])
      | (go_at_call 39; refine (span_calls _ _ _).mono ?_; rintro e w3 ⟨rfl, hb_⟩; replace HB := Aside0.mk (below_step HB.out hb_); replace cb3_0 := pw_cell_below hb_ cb3_0; replace cb3_1 := pw_cell_below hb_ cb3_1; replace cb3_2 := pw_cell_below hb_ cb3_2; replace cb3_3 := pw_cell_below hb_ cb3_3; replace cb3_4 := pw_cell_below hb_ cb3_4; replace cb3_5 := pw_cell_below hb_ cb3_5; replace pc := pw_cell_below hb_ pc; replace Kb3 := Aside0.mk ((hb_.block _ (blk_lt Kb3.out)).trans Kb3.out); clear hb_)
      | (go_at_call 104; refine (over_calls _ cb ob A c l (fromP x.f0.f0 x.f0.f1) (endP x.f0.f0 x.f0.f1) (HC.out.below HB.out) HS.out hsz HLT.out).mono ?_; rintro e w4 ⟨vv, rfl, hRv, hb_⟩; replace HB := Aside0.mk (below_step HB.out hb_); replace cb3_0 := pw_cell_below hb_ cb3_0; replace cb3_1 := pw_cell_below hb_ cb3_1; replace cb3_2 := pw_cell_below hb_ cb3_2; replace cb3_3 := pw_cell_below hb_ cb3_3; replace cb3_4 := pw_cell_below hb_ cb3_4; replace cb3_5 := pw_cell_below hb_ cb3_5; replace pc := pw_cell_below hb_ pc; replace Kb3 := Aside0.mk ((hb_.block _ (blk_lt Kb3.out)).trans Kb3.out); clear hb_; obtain ⟨Av, cv, hv⟩ := Kd.R_slice hRv; clear hRv; subst hv; (try rw [HO.out]))
      | fail)
      refine start_ (n := 7) (S := fun w' => w'.cell? ⟨cb, 0, none⟩ = some (.pointer (some ⟨ob, 0, none⟩)) ∧ w'.cell? ⟨b3, 0, none⟩ = some (.int .i64 x.f0.f0) ∧ w'.cell? ⟨b3, 1, none⟩ = some (.int .i64 x.f0.f1) ∧ w'.cell? ⟨b3, 2, none⟩ = some (.int .i64 x.f1) ∧ w'.cell? ⟨b3, 3, none⟩ = some (.int .i64 x.f2) ∧ w'.cell? ⟨b3, 4, none⟩ = some (.int .i64 x.f3) ∧ w'.cell? ⟨b3, 5, none⟩ = some (.bool x.f4)) (ds := [6]) #[false, false, false, false, false, false, false] (by kernel_rfl) rfl rfl ⟨pc, cb3_0, cb3_1, cb3_2, cb3_3, cb3_4, cb3_5⟩ ?_
      intro hHeld
      replace HB := Aside0.mk HB.out.drew
      clear pc cb3_0 cb3_1 cb3_2 cb3_3 cb3_4 cb3_5
      generalize w4.drew = w5 at *
      refine pure_ (i := 0) (N := some 22) (v := ?_) (a' := ?_) #[true, false, false, false, false, false, false] rfl rfl (by kernel_rfl) (fun _ _ _ h => h) (Or.inl ⟨by rfl, ?_⟩) ?_ ?_
      rotate_left
      · intro w'
        go_simp
        with_reducible rfl
      rotate_left
      · simp only [Act.put, List.setIfInBounds_toArray, List.set_cons_zero, List.set_cons_succ, i64_w, i32_w]
        rfl
      refine pure_ (i := 1) (N := some 23) (v := ?_) (a' := ?_) #[true, true, false, false, false, false, false] rfl rfl (by kernel_rfl) (fun _ _ _ h => h) (Or.inl ⟨by rfl, ?_⟩) ?_ ?_
      rotate_left
      · intro w'
        go_simp
        with_reducible rfl
      rotate_left
      · simp only [Act.put, List.setIfInBounds_toArray, List.set_cons_zero, List.set_cons_succ, i64_w, i32_w]
        rfl
      refine pure_ (i := 2) (N := some 24) (v := ?_) (a' := ?_) #[true, true, true, false, false, false, false] rfl rfl (by kernel_rfl) (fun _ _ _ h => h) (Or.inl ⟨by rfl, ?_⟩) ?_ ?_
      rotate_left
      · intro w'
        go_simp
        with_reducible rfl
      rotate_left
      · simp only [Act.put, List.setIfInBounds_toArray, List.set_cons_zero, List.set_cons_succ, i64_w, i32_w]
        rfl
      refine take_ (i := 3) (N := some 25) (v := ?_) (a' := ?_) #[true, true, true, true, false, false, false] rfl rfl (by kernel_rfl) (fun _ _ _ h => h) (Or.inl ⟨by rfl, ?_⟩) hHeld ?_ ?_
      rotate_left
      · rintro w' ⟨s0, s1, s2, s3, s4, s5, s6⟩
        go_simp
        with_reducible rfl
      rotate_left
      · simp only [Act.put, List.setIfInBounds_toArray, List.set_cons_zero, List.set_cons_succ, i64_w, i32_w]
        rfl
      refine pure_ (i := 4) (N := some 26) (v := ?_) (a' := ?_) #[true, true, true, true, true, false, false] rfl rfl (by kernel_rfl) (fun _ _ _ h => h) (Or.inl ⟨by rfl, ?_⟩) ?_ ?_
      rotate_left
      · intro w'
        go_simp
        with_reducible rfl
      rotate_left
      · simp only [Act.put, List.setIfInBounds_toArray, List.set_cons_zero, List.set_cons_succ, i64_w, i32_w]
        rfl
      refine take_ (i := 5) (N := some 27) (v := ?_) (a' := ?_) #[true, true, true, true, true, true, false] rfl rfl (by kernel_rfl) (fun _ _ _ h => h) (Or.inl ⟨by rfl, ?_⟩) hHeld ?_ ?_
      rotate_left
      · rintro w' ⟨s0, s1, s2, s3, s4, s5, s6⟩
        go_simp
        with_reducible rfl
      rotate_left
      · simp only [Act.put, List.setIfInBounds_toArray, List.set_cons_zero, List.set_cons_succ, i64_w, i32_w]
        rfl
      refine last_ (i := 6) (N := some 28) #[true, true, true, true, true, true, true] rfl rfl (by kernel_rfl) (by decide) (fun K hK => ?_)
      refine goes_ Tryz.func105 (by kernel_rfl) rfl #[.pointer (some ⟨ob, 0, none⟩), .int .i64 (fromP x.f0.f0 x.f0.f1), .agg #[.int .i64 x.f0.f0, .int .i64 x.f0.f1, .int .i64 x.f1, .int .i64 x.f2, .int .i64 x.f3, .bool x.f4]] (by rfl) rfl rfl (by go_simp) ?_
      refine (oput_calls w5 base ob l (fromP x.f0.f0 x.f0.f1) x (HM.out.map.below HB.out) HS.out HKEY.out hsz (Nat.le_trans HBS.out HB.out.size)).mono ?_
      rintro e w6 ⟨rfl, hM6, hK6, hB6⟩
      refine ⟨_, rfl, ?_⟩
      refine hK.out _ _ ?_
      refine done_ (by kernel_rfl) ?_
      have H1 := Aside0.mk (CatOwn.keep (HM.out.below HB.out) hM6 hK6)
      have H2 := Aside0.mk ((KeepM.of_below (ob := ob) HB.out).trans hK6)
      have H3 := Aside0.mk ((HB.out.mono HBS.out).trans hB6)
      clear hM6 hK6 hB6 hHeld HB
      go_wp2
      go_ret
      rw [HE.out]
      exact ⟨rfl, H1.out, H2.out, H3.out⟩
end Go.Proofs.YthhmfeiefbnhcaaGreat.Due
namespace Go.Proofs.YthhmfeiefbnhcaaGreat.Due
open Go.RowKit Go.Proofs.YthhmfeiefbnhcaaGreat.PDueParts Go.Proofs.YthhmfeiefbnhcaaGreatW.PrintWords Go.Proofs.YthhmfeiefbnhcaaGreatW.PrintLast
set_option linter.unusedVariables false
set_option linter.unusedSimpArgs false
theorem CatOwn.lower {w : World} {base base' cb ob : Nat} {l : List S183} (h : CatOwn w base cb ob l) (hb : base' ≤ base) : CatOwn w base' cb ob l := ⟨h.blk, h.map.lower hb⟩
theorem MapOwn.set_ {w : World} {base ob : Nat} {l : List S183} (h : MapOwn w base ob l) {g : Nat} {cs : Array Value} {t : TypeId} (hb : w.heap[g]? = some (.cells cs t (0, 0))) (h1 : t ≠ 178) (h2 : ∀ q, q ∈ (183 : Nat) :: k183.E → q ≠ t) (j : Nat) (u : Value) : MapOwn (w.setCell ⟨g, j, none⟩ u) base ob l := by
  obtain ⟨v, hv, hR⟩ := h.own
  exact ⟨⟨v, blk_far hv (p := ⟨g, j, none⟩) (blk_ne hv hb (fun e => h1 e.symm)) _, Kd.R_set hR hb h2 j u⟩, h.ge⟩
theorem cputP_fail {l : List S183} {x : S43} (h : ¬ (cputP l x).1 = 0) : (cputP l x).2 = l := by
  unfold cputP at *
  split
  · split
    · rename_i a b
      rw [if_pos a, if_pos b] at h; exact absurd rfl h
    · rfl
  · rfl
set_option maxHeartbeats 1000000 in
theorem cnew_calls (W : World) : Calls Tryz.prog 24 #[] W fun e w' => ∃ cb ob, e = .returned (.pointer (some ⟨cb, 0, none⟩)) ∧ CatOwn w' W.heap.size cb ob [] ∧ W.heap.size ≤ cb ∧ Below W.heap.size W w' := by
  go_enter Tryz.func24, Tryz.ntmps24
  go_wp2_with (go_at_call 62; refine (onew_calls _).mono ?_; rintro e w1 ⟨ob, rfl, hM, hb⟩; have HM := Aside0.mk hM; have HB := Aside0.mk hb; clear hM hb)
  go_ret
  have hal : Below w1.heap.size w1 (w1.alloc (.cells #[.pointer (some ⟨ob, 0, none⟩)] 134)) := below_alloc (Below.refl _ _) _
  exact ⟨w1.heap.size, ob, rfl, ⟨blk_new w1 _, HM.out.below hal⟩, HB.out.size, below_step HB.out hal⟩
set_option maxHeartbeats 1000000 in
theorem ccopy_calls (W : World) (cb ob : Nat) (A : Option Addr) (c : Nat) (l : List S183) (hm : CatAt W cb ob A c l) (hsz : l.length ≤ 1000000) :
    Calls Tryz.prog 63 #[.pointer (some ⟨cb, 0, none⟩)] W fun e w' => ∃ cb2 ob2, e = .returned (.pointer (some ⟨cb2, 0, none⟩)) ∧ CatOwn w' W.heap.size cb2 ob2 l ∧ W.heap.size ≤ cb2 ∧ Below W.heap.size W w' := by
  have HM := Aside0.mk hm
  have pc : W.cell? ⟨cb, 0, none⟩ = some (.pointer (some ⟨ob, 0, none⟩)) := (blk_cell hm.blk 0).trans rfl
  clear hm
  go_enter Tryz.func63, Tryz.ntmps63
  go_wp2_with (go_at_call 100; refine (ocopy_calls _ ob A c l HM.out.map hsz).mono ?_; rintro e w1 ⟨ob2, rfl, hM, hb⟩; have HM2 := Aside0.mk hM; have HB := Aside0.mk hb; clear hM hb)
  go_ret
  have hal : Below w1.heap.size w1 (w1.alloc (.cells #[.pointer (some ⟨ob2, 0, none⟩)] 134)) := below_alloc (Below.refl _ _) _
  exact ⟨w1.heap.size, ob2, rfl, ⟨blk_new w1 _, HM2.out.below hal⟩, HB.out.size, below_step HB.out hal⟩
set_option maxRecDepth 100000 in
set_option maxHeartbeats 2000000 in
theorem apply_calls (W : World) (base cb ob : Nat) (l : List S183) (x : S43) (ad : Addr) (c2 : Nat) (hm : CatOwn W base cb ob l) (hcb : base ≤ cb) (hs : Rising l) (hsz : l.length ≤ 1000000) (hb : base ≤ W.heap.size) (hx : Kd.C k43 W (some ad) 1 [x])
    (hk : rightE x = true → overP l (fromP x.f0.f0 x.f0.f1) (endP x.f0.f0 x.f0.f1) = [] → hasKey l (fromP x.f0.f0 x.f0.f1) = false) :
    Calls Tryz.prog 25 #[.pointer (some ⟨cb, 0, none⟩), .agg #[.slice none 0 0, .slice (some ad) 1 c2]] W fun e w' =>
      ∃ ob', e = .returned (.int .i64 (cputP l x).1) ∧ CatOwn w' base cb ob' (cputP l x).2 ∧ Below base W w' ∧ W.grownBy w' (some cb) := by
  obtain ⟨A, c, hC⟩ := hm.at_
  have HM := Aside0.mk hm
  have HC := Aside0.mk hC
  have HS := Aside0.mk hs
  have HK := Aside0.mk hk
  have HBS := Aside0.mk hb
  have HCB := Aside0.mk hcb
  have HX := Aside0.mk hx
  have HB := Aside0.mk (Below.refl W.heap.size W)
  clear hm hs hk hb hC hcb hx
  go_enter Tryz.func25, Tryz.ntmps25
  go_wp2_with (first
    | ((with_reducible refine gate_dst (N := 3) rfl ?_); refine box_event ?hg (N := 3) ?hd (cs := #[.slice none 0 0, .slice (some ad) 1 c2]) (t := 75) ?hr ?_; (case hd => rfl); (case hg => rfl); (case hr => first | (go_simp; done) | (go_simp; rfl)); intro b3 hb3 w1 Kb3 hb_; have Gb3 := Aside0.mk (by rw [hb3]; exact HB.out.size : W.heap.size ≤ b3); replace HB := Aside0.mk (below_step HB.out hb_); clear hb3; clear hb_; have cb3_0 := blk_cell Kb3 0; have cb3_1 := blk_cell Kb3 1; simp only [List.getElem?_toArray, List.getElem?_cons_zero, List.getElem?_cons_succ] at cb3_0 cb3_1; replace Kb3 := Aside0.mk Kb3)
    | (go_at_call 63; refine (ccopy_calls _ cb ob A c l (HC.out.below HB.out) hsz).mono ?_; rintro e w2 ⟨cb2, ob2, rfl, hM2, hge, hb_⟩; have HM2 := Aside0.mk (hM2.lower HB.out.size); have HGE := Aside0.mk (Nat.le_trans HB.out.size hge); clear hM2 hge; replace HB := Aside0.mk (below_step HB.out hb_); replace cb3_0 := pw_cell_below hb_ cb3_0; replace cb3_1 := pw_cell_below hb_ cb3_1; replace Kb3 := Aside0.mk ((hb_.block _ (blk_lt Kb3.out)).trans Kb3.out); clear hb_)
    | fail)
  refine wp_loop_rounds 1 ?_
  rw [rounds_succ]
  go_wp2
  have HBW := HB
  clear HB Kb3 cb3_0 cb3_1
  obtain ⟨ad', hA, h0, h1, h2, h3, h4, h5⟩ := at_T43 HX.out 0 (by omega) (by omega)
  cases hA
  rw [show rd_T43 [x] 0 = x from rfl, show ((0 : Int).toNat * 6) = 0 from rfl, Addr.add_zero'] at h0 h1 h2 h3 h4 h5
  replace h0 := pw_cell_below HBW.out h0
  replace h1 := pw_cell_below HBW.out h1
  replace h2 := pw_cell_below HBW.out h2
  replace h3 := pw_cell_below HBW.out h3
  replace h4 := pw_cell_below HBW.out h4
  replace h5 := pw_cell_below HBW.out h5
  have HB := Aside0.mk (Below.refl w2.heap.size w2)
  refine wp_loop_rounds 2 ?_
  rw [rounds_succ]
  by_cases hf : (cputP l x).1 = 0
  case neg =>
    have hf' : ¬ (cputP l x).1 = 0 := hf
    go_wp2_with (first
      | ((with_reducible refine gate_dst (N := 13) rfl ?_); refine box_event ?hg (N := 13) ?hd (cs := #[.int .i64 0, .int .i64 0, .int .i64 0, .int .i64 0, .int .i64 0, .bool false]) (t := 43) ?hr ?_; (case hd => rfl); (case hg => rfl); (case hr => first | (go_simp; done) | (go_simp; rfl)); intro b13 hb13 w3 Kb13 hb_; have Gb13 := Aside0.mk (by rw [hb13]; exact HB.out.size : w2.heap.size ≤ b13); replace HB := Aside0.mk (below_step HB.out hb_); clear hb13; clear hb_; replace Kb13 := Aside0.mk Kb13)
      | (refine store_agg rfl 43 (.tmp 13) (.tmp 52) rfl rfl b13 #[.int .i64 x.f0.f0, .int .i64 x.f0.f1, .int .i64 x.f1, .int .i64 x.f2, .int .i64 x.f3, .bool x.f4] 43 _ rfl rfl Kb13.out size43 rfl (by simp [Value.oneCell']) ?_; intro w4 k_ g_; replace HB := Aside0.mk (HB.out.grown g_ HB.out.size (fun r e => by cases e; exact Gb13.out)); clear Kb13; have Kb13 := Aside0.mk k_; clear k_ g_; have cb13_0 := blk_cell Kb13.out 0; have cb13_1 := blk_cell Kb13.out 1; have cb13_2 := blk_cell Kb13.out 2; have cb13_3 := blk_cell Kb13.out 3; have cb13_4 := blk_cell Kb13.out 4; have cb13_5 := blk_cell Kb13.out 5; simp only [List.getElem?_toArray, List.getElem?_cons_zero, List.getElem?_cons_succ] at cb13_0 cb13_1 cb13_2 cb13_3 cb13_4 cb13_5)
      | (go_at_call 66; refine (cput_calls _ W.heap.size cb2 ob2 l x (HM2.out.below HB.out) HS.out hsz (Nat.le_trans HBW.out.size HB.out.size) HK.out).mono ?_; rintro e w5 ⟨rfl, hM5, hK5, hB5⟩; have HM5 := Aside0.mk hM5; have HB5 := Aside0.mk ((below_step HBW.out (HB.out)).trans hB5); clear hM5 hK5 hB5 cb13_0 cb13_1 cb13_2 cb13_3 cb13_4 cb13_5 Kb13 HB)
      | fail)
    go_ret
    refine ⟨ob, rfl, ?_, HB5.out.mono HBS.out, grown_of_below HB5.out (some cb)⟩
    rw [cputP_fail hf]
    exact HM.out.below HB5.out
  case pos =>
    have HF := Aside0.mk hf
    clear hf
    go_wp2_with (first
      | ((with_reducible refine gate_dst (N := 13) rfl ?_); refine box_event ?hg (N := 13) ?hd (cs := #[.int .i64 0, .int .i64 0, .int .i64 0, .int .i64 0, .int .i64 0, .bool false]) (t := 43) ?hr ?_; (case hd => rfl); (case hg => rfl); (case hr => first | (go_simp; done) | (go_simp; rfl)); intro b13 hb13 w3 Kb13 hb_; have Gb13 := Aside0.mk (by rw [hb13]; exact HB.out.size : w2.heap.size ≤ b13); replace HB := Aside0.mk (below_step HB.out hb_); clear hb13; clear hb_; replace Kb13 := Aside0.mk Kb13)
      | (refine store_agg rfl 43 (.tmp 13) (.tmp 52) rfl rfl b13 #[.int .i64 x.f0.f0, .int .i64 x.f0.f1, .int .i64 x.f1, .int .i64 x.f2, .int .i64 x.f3, .bool x.f4] 43 _ rfl rfl Kb13.out size43 rfl (by simp [Value.oneCell']) ?_; intro w4 k_ g_; replace HB := Aside0.mk (HB.out.grown g_ HB.out.size (fun r e => by cases e; exact Gb13.out)); clear Kb13; have Kb13 := Aside0.mk k_; clear k_ g_; have cb13_0 := blk_cell Kb13.out 0; have cb13_1 := blk_cell Kb13.out 1; have cb13_2 := blk_cell Kb13.out 2; have cb13_3 := blk_cell Kb13.out 3; have cb13_4 := blk_cell Kb13.out 4; have cb13_5 := blk_cell Kb13.out 5; simp only [List.getElem?_toArray, List.getElem?_cons_zero, List.getElem?_cons_succ] at cb13_0 cb13_1 cb13_2 cb13_3 cb13_4 cb13_5)
      | (go_at_call 66; refine (cput_calls _ W.heap.size cb2 ob2 l x (HM2.out.below HB.out) HS.out hsz (Nat.le_trans HBW.out.size HB.out.size) HK.out).mono ?_; rintro e w5 ⟨rfl, hM5, hK5, hB5⟩; rw [HF.out]; have HM5 := Aside0.mk hM5; have HB5 := Aside0.mk ((below_step HBW.out (HB.out)).trans hB5); clear hM5 hK5 hB5 cb13_0 cb13_1 cb13_2 cb13_3 cb13_4 cb13_5 Kb13 HB)
      | fail)
    rw [rounds_succ]
    obtain ⟨v5, hv5, hR5⟩ := HM5.out.map.own
    have K2 := Aside0.mk HM5.out.blk
    have K1 := Aside0.mk ((HB5.out.block _ (blk_lt HM.out.blk)).trans HM.out.blk)
    have c2_0 : w5.cell? ⟨cb2, 0, none⟩ = some (.pointer (some ⟨ob2, 0, none⟩)) := (blk_cell K2.out 0).trans rfl
    have c1_0 : w5.cell? ⟨cb, 0, none⟩ = some (.pointer (some ⟨ob, 0, none⟩)) := (blk_cell K1.out 0).trans rfl
    have f1_0 : w5.frozen? ⟨cb, 0, none⟩ = false := blk_frozen K1.out 0
    clear hR5 hv5
    go_wp2
    go_ret
    refine ⟨ob2, by rw [HF.out]; rfl, ⟨blk_set K1.out 0 _, MapOwn.set_ (HM5.out.map.lower HBS.out) K1.out (by decide) (by decide) 0 _⟩, (HB5.out.mono HBS.out).setCell (p := ⟨cb, 0, none⟩) HCB.out _, (grown_of_below HB5.out (some cb)).trans (grownBy_setCell' w5 cb _)⟩
end Go.Proofs.YthhmfeiefbnhcaaGreat.Due
namespace Go.Proofs.YthhmfeiefbnhcaaGreat.Due
open Go.RowKit Go.Proofs.YthhmfeiefbnhcaaGreat.PDueParts Go.Proofs.YthhmfeiefbnhcaaGreatW.PrintWords Go.Proofs.YthhmfeiefbnhcaaGreatW.PrintLast
set_option linter.unusedVariables false
set_option linter.unusedSimpArgs false
structure Pol where
  r0 : Int
  r1 : Int
  r2 : Int
  r3 : Int
  r4 : Int
  r5 : Int
  r6 : Int
  r7 : Int
  r8 : Int
def Pol.ok (p : Pol) : Prop := 1 ≤ p.r0 ∧ p.r0 ≤ 1048576 ∧ 0 ≤ p.r1 ∧ p.r1 ≤ 1048576 ∧ 0 ≤ p.r2 ∧ p.r2 ≤ 1048576 ∧ 0 ≤ p.r3 ∧ p.r3 ≤ 1048576 ∧ 0 ≤ p.r4 ∧ p.r4 ≤ 1048576 ∧ 1 ≤ p.r5 ∧ p.r5 ≤ 1048576 ∧ 1 ≤ p.r6 ∧ p.r6 ≤ 1048576 ∧ 1 ≤ p.r7 ∧ p.r7 ≤ 64 ∧ 100 ≤ p.r8 ∧ p.r8 ≤ 1048576
theorem size201 : (Tryz.prog.info? 201).map (·.size) = some 18 := by kernel_rfl
theorem size203 : (Tryz.prog.info? 203).map (·.size) = some 9 := by kernel_rfl
theorem size205 : (Tryz.prog.info? 205).map (·.size) = some 4 := by kernel_rfl
set_option maxRecDepth 100000 in
set_option maxHeartbeats 1000000 in
theorem bounds_calls (W : World) : Calls Tryz.prog 120 #[] W fun e w' => e = .returned (.agg #[.int .i64 1, .int .i64 1048576, .int .i64 0, .int .i64 1048576, .int .i64 0, .int .i64 1048576, .int .i64 0, .int .i64 1048576, .int .i64 0, .int .i64 1048576, .int .i64 1, .int .i64 1048576, .int .i64 1, .int .i64 1048576, .int .i64 1, .int .i64 64, .int .i64 100, .int .i64 1048576]) ∧ Below W.heap.size W w' := by
  have HB := Aside0.mk (Below.refl W.heap.size W)
  go_enter Tryz.func120, Tryz.ntmps120
  go_wp2_with (first
      | ((with_reducible refine gate_dst (N := 0) rfl ?_); refine box_event ?hg (N := 0) ?hd (cs := #[.int .i64 0, .int .i64 0, .int .i64 0, .int .i64 0, .int .i64 0, .int .i64 0, .int .i64 0, .int .i64 0, .int .i64 0, .int .i64 0, .int .i64 0, .int .i64 0, .int .i64 0, .int .i64 0, .int .i64 0, .int .i64 0, .int .i64 0, .int .i64 0]) (t := 201) ?hr ?_; (case hd => rfl); (case hg => rfl); (case hr => first | (go_simp; done) | (go_simp; rfl)); intro b0 hb0 w1 Kb0 hb_; have Gb0 := Aside0.mk (by rw [hb0]; exact HB.out.size : W.heap.size ≤ b0); replace HB := Aside0.mk (below_step HB.out hb_); clear hb0; clear hb_; replace Kb0 := Aside0.mk Kb0)
      | (refine store_agg rfl 201 (.tmp 0) (.tmp 10) rfl rfl b0 #[.int .i64 1, .int .i64 1048576, .int .i64 0, .int .i64 1048576, .int .i64 0, .int .i64 1048576, .int .i64 0, .int .i64 1048576, .int .i64 0, .int .i64 1048576, .int .i64 1, .int .i64 1048576, .int .i64 1, .int .i64 1048576, .int .i64 1, .int .i64 64, .int .i64 100, .int .i64 1048576] 201 _ rfl rfl Kb0.out size201 rfl (by simp [Value.oneCell']) ?_; intro w2 k_ g_; replace HB := Aside0.mk (HB.out.grown g_ HB.out.size (fun r e => by cases e; exact Gb0.out)); clear Kb0; have Kb0 := Aside0.mk k_; clear k_ g_)
      | fail)
  (try simp only [Exit.inBlock, Exit.then])
  refine bodyPost_ret (results_cell_row rfl _ _ b0 201 _ (0, 0) _ rfl Kb0.out Tryz.underlying201 rfl size201) rfl ?_
  exact ⟨rfl, HB.out⟩
set_option maxRecDepth 100000 in
set_option maxHeartbeats 1000000 in
theorem numbers_calls (W : World) (p : Pol) : Calls Tryz.prog 121 #[.agg #[.int .i64 p.r0, .int .i64 p.r1, .int .i64 p.r2, .int .i64 p.r3, .int .i64 p.r4, .int .i64 p.r5, .int .i64 p.r6, .int .i64 p.r7, .int .i64 p.r8]] W fun e w' => e = .returned (.agg #[.int .i64 p.r0, .int .i64 p.r1, .int .i64 p.r2, .int .i64 p.r3, .int .i64 p.r4, .int .i64 p.r5, .int .i64 p.r6, .int .i64 p.r7, .int .i64 p.r8]) ∧ Below W.heap.size W w' := by
  have HB := Aside0.mk (Below.refl W.heap.size W)
  go_enter Tryz.func121, Tryz.ntmps121
  go_wp2_with (first
      | ((with_reducible refine gate_dst (N := 1) rfl ?_); refine box_event ?hg (N := 1) ?hd (cs := #[.int .i64 p.r0, .int .i64 p.r1, .int .i64 p.r2, .int .i64 p.r3, .int .i64 p.r4, .int .i64 p.r5, .int .i64 p.r6, .int .i64 p.r7, .int .i64 p.r8]) (t := 25) ?hr ?_; (case hd => rfl); (case hg => rfl); (case hr => first | (go_simp; done) | (go_simp; rfl)); intro b1 hb1 w1 Kb1 hb_; have Gb1 := Aside0.mk (by rw [hb1]; exact HB.out.size : W.heap.size ≤ b1); replace HB := Aside0.mk (below_step HB.out hb_); clear hb1; clear hb_; have cb1_0 := blk_cell Kb1 0; have cb1_1 := blk_cell Kb1 1; have cb1_2 := blk_cell Kb1 2; have cb1_3 := blk_cell Kb1 3; have cb1_4 := blk_cell Kb1 4; have cb1_5 := blk_cell Kb1 5; have cb1_6 := blk_cell Kb1 6; have cb1_7 := blk_cell Kb1 7; have cb1_8 := blk_cell Kb1 8; simp only [List.getElem?_toArray, List.getElem?_cons_zero, List.getElem?_cons_succ] at cb1_0 cb1_1 cb1_2 cb1_3 cb1_4 cb1_5 cb1_6 cb1_7 cb1_8; replace Kb1 := Aside0.mk Kb1)
      | ((with_reducible refine gate_dst (N := 2) rfl ?_); refine box_event ?hg (N := 2) ?hd (cs := #[.int .i64 0, .int .i64 0, .int .i64 0, .int .i64 0, .int .i64 0, .int .i64 0, .int .i64 0, .int .i64 0, .int .i64 0]) (t := 203) ?hr ?_; (case hd => rfl); (case hg => rfl); (case hr => first | (go_simp; done) | (go_simp; rfl)); intro b2 hb2 w2 Kb2 hb_; have Gb2 := Aside0.mk (by rw [hb2]; exact HB.out.size : W.heap.size ≤ b2); replace HB := Aside0.mk (below_step HB.out hb_); clear hb2; replace cb1_0 := pw_cell_below hb_ cb1_0; replace cb1_1 := pw_cell_below hb_ cb1_1; replace cb1_2 := pw_cell_below hb_ cb1_2; replace cb1_3 := pw_cell_below hb_ cb1_3; replace cb1_4 := pw_cell_below hb_ cb1_4; replace cb1_5 := pw_cell_below hb_ cb1_5; replace cb1_6 := pw_cell_below hb_ cb1_6; replace cb1_7 := pw_cell_below hb_ cb1_7; replace cb1_8 := pw_cell_below hb_ cb1_8; clear hb_; replace Kb2 := Aside0.mk Kb2)
      | (refine store_agg rfl 203 (.tmp 2) (.tmp 21) rfl rfl b2 #[.int .i64 p.r0, .int .i64 p.r1, .int .i64 p.r2, .int .i64 p.r3, .int .i64 p.r4, .int .i64 p.r5, .int .i64 p.r6, .int .i64 p.r7, .int .i64 p.r8] 203 _ rfl rfl Kb2.out size203 rfl (by simp [Value.oneCell']) ?_; intro w3 k_ g_; replace HB := Aside0.mk (HB.out.grown g_ HB.out.size (fun r e => by cases e; exact Gb2.out)); clear Kb2; have Kb2 := Aside0.mk k_; clear k_ g_)
      | fail)
  (try simp only [Exit.inBlock, Exit.then])
  refine bodyPost_ret (results_cell_row rfl _ _ b2 203 _ (0, 0) _ rfl Kb2.out Tryz.underlying203 rfl size203) rfl ?_
  exact ⟨rfl, HB.out⟩
theorem idx_0 (w : World) (p : Pol) : (Instr.index 203 (.agg #[.int .i64 p.r0, .int .i64 p.r1, .int .i64 p.r2, .int .i64 p.r3, .int .i64 p.r4, .int .i64 p.r5, .int .i64 p.r6, .int .i64 p.r7, .int .i64 p.r8]) (.int .i64 0)).run Tryz.prog w = .ok (.int .i64 p.r0) w := by kernel_rfl
theorem idx_1 (w : World) (p : Pol) : (Instr.index 203 (.agg #[.int .i64 p.r0, .int .i64 p.r1, .int .i64 p.r2, .int .i64 p.r3, .int .i64 p.r4, .int .i64 p.r5, .int .i64 p.r6, .int .i64 p.r7, .int .i64 p.r8]) (.int .i64 1)).run Tryz.prog w = .ok (.int .i64 p.r1) w := by kernel_rfl
theorem idx_2 (w : World) (p : Pol) : (Instr.index 203 (.agg #[.int .i64 p.r0, .int .i64 p.r1, .int .i64 p.r2, .int .i64 p.r3, .int .i64 p.r4, .int .i64 p.r5, .int .i64 p.r6, .int .i64 p.r7, .int .i64 p.r8]) (.int .i64 2)).run Tryz.prog w = .ok (.int .i64 p.r2) w := by kernel_rfl
theorem idx_3 (w : World) (p : Pol) : (Instr.index 203 (.agg #[.int .i64 p.r0, .int .i64 p.r1, .int .i64 p.r2, .int .i64 p.r3, .int .i64 p.r4, .int .i64 p.r5, .int .i64 p.r6, .int .i64 p.r7, .int .i64 p.r8]) (.int .i64 3)).run Tryz.prog w = .ok (.int .i64 p.r3) w := by kernel_rfl
theorem idx_4 (w : World) (p : Pol) : (Instr.index 203 (.agg #[.int .i64 p.r0, .int .i64 p.r1, .int .i64 p.r2, .int .i64 p.r3, .int .i64 p.r4, .int .i64 p.r5, .int .i64 p.r6, .int .i64 p.r7, .int .i64 p.r8]) (.int .i64 4)).run Tryz.prog w = .ok (.int .i64 p.r4) w := by kernel_rfl
theorem idx_5 (w : World) (p : Pol) : (Instr.index 203 (.agg #[.int .i64 p.r0, .int .i64 p.r1, .int .i64 p.r2, .int .i64 p.r3, .int .i64 p.r4, .int .i64 p.r5, .int .i64 p.r6, .int .i64 p.r7, .int .i64 p.r8]) (.int .i64 5)).run Tryz.prog w = .ok (.int .i64 p.r5) w := by kernel_rfl
theorem idx_6 (w : World) (p : Pol) : (Instr.index 203 (.agg #[.int .i64 p.r0, .int .i64 p.r1, .int .i64 p.r2, .int .i64 p.r3, .int .i64 p.r4, .int .i64 p.r5, .int .i64 p.r6, .int .i64 p.r7, .int .i64 p.r8]) (.int .i64 6)).run Tryz.prog w = .ok (.int .i64 p.r6) w := by kernel_rfl
theorem idx_7 (w : World) (p : Pol) : (Instr.index 203 (.agg #[.int .i64 p.r0, .int .i64 p.r1, .int .i64 p.r2, .int .i64 p.r3, .int .i64 p.r4, .int .i64 p.r5, .int .i64 p.r6, .int .i64 p.r7, .int .i64 p.r8]) (.int .i64 7)).run Tryz.prog w = .ok (.int .i64 p.r7) w := by kernel_rfl
theorem idx_8 (w : World) (p : Pol) : (Instr.index 203 (.agg #[.int .i64 p.r0, .int .i64 p.r1, .int .i64 p.r2, .int .i64 p.r3, .int .i64 p.r4, .int .i64 p.r5, .int .i64 p.r6, .int .i64 p.r7, .int .i64 p.r8]) (.int .i64 8)).run Tryz.prog w = .ok (.int .i64 p.r8) w := by kernel_rfl
set_option maxRecDepth 100000 in
set_option maxHeartbeats 4000000 in
theorem check_calls (W : World) (p : Pol) (h : p.ok) : Calls Tryz.prog 82 #[.agg #[.int .i64 p.r0, .int .i64 p.r1, .int .i64 p.r2, .int .i64 p.r3, .int .i64 p.r4, .int .i64 p.r5, .int .i64 p.r6, .int .i64 p.r7, .int .i64 p.r8]] W fun e w' => e = .returned (.int .i64 0) ∧ Below W.heap.size W w' := by
  have HB := Aside0.mk (Below.refl W.heap.size W)
  obtain ⟨n0, n1, n2, n3, n4, n5, n6, n7, n8, n9, n10, n11, n12, n13, n14, n15, n16, n17⟩ := h
  have m0 : ¬ p.r0 < 1 := by omega
  have k0 : ¬ 1048576 < p.r0 := by omega
  have m1 : ¬ p.r1 < 0 := by omega
  have k1 : ¬ 1048576 < p.r1 := by omega
  have m2 : ¬ p.r2 < 0 := by omega
  have k2 : ¬ 1048576 < p.r2 := by omega
  have m3 : ¬ p.r3 < 0 := by omega
  have k3 : ¬ 1048576 < p.r3 := by omega
  have m4 : ¬ p.r4 < 0 := by omega
  have k4 : ¬ 1048576 < p.r4 := by omega
  have m5 : ¬ p.r5 < 1 := by omega
  have k5 : ¬ 1048576 < p.r5 := by omega
  have m6 : ¬ p.r6 < 1 := by omega
  have k6 : ¬ 1048576 < p.r6 := by omega
  have m7 : ¬ p.r7 < 1 := by omega
  have k7 : ¬ 64 < p.r7 := by omega
  have m8 : ¬ p.r8 < 100 := by omega
  have k8 : ¬ 1048576 < p.r8 := by omega
  clear n0 n1 n2 n3 n4 n5 n6 n7 n8 n9 n10 n11 n12 n13 n14 n15 n16 n17
  have HX := And.intro (fun w => idx_0 w p) (And.intro (fun w => idx_1 w p) (And.intro (fun w => idx_2 w p) (And.intro (fun w => idx_3 w p) (And.intro (fun w => idx_4 w p) (And.intro (fun w => idx_5 w p) (And.intro (fun w => idx_6 w p) (And.intro (fun w => idx_7 w p) (fun w => idx_8 w p))))))))
  obtain ⟨i0, i1, i2, i3, i4, i5, i6, i7, i8⟩ := HX
  go_enter Tryz.func82, Tryz.ntmps82
  go_wp2_with (first
      | ((with_reducible refine gate_dst (N := 1) rfl ?_); refine box_event ?hg (N := 1) ?hd (cs := #[.int .i64 p.r0, .int .i64 p.r1, .int .i64 p.r2, .int .i64 p.r3, .int .i64 p.r4, .int .i64 p.r5, .int .i64 p.r6, .int .i64 p.r7, .int .i64 p.r8]) (t := 25) ?hr ?_; (case hd => rfl); (case hg => rfl); (case hr => first | (go_simp; done) | (go_simp; rfl)); intro b1 hb1 w1 Kb1 hb_; have Gb1 := Aside0.mk (by rw [hb1]; exact HB.out.size : W.heap.size ≤ b1); replace HB := Aside0.mk (below_step HB.out hb_); clear hb1; clear hb_; replace Kb1 := Aside0.mk Kb1)
      | (go_at_call 120; refine (bounds_calls _).mono ?_; rintro e w2 ⟨rfl, hb_⟩; replace HB := Aside0.mk (below_step HB.out hb_); replace Kb1 := Aside0.mk ((hb_.block _ (blk_lt Kb1.out)).trans Kb1.out); clear hb_)
      | ((with_reducible refine gate_dst (N := 3) rfl ?_); refine box_event ?hg (N := 3) ?hd (cs := #[.int .i64 0, .int .i64 0, .int .i64 0, .int .i64 0, .int .i64 0, .int .i64 0, .int .i64 0, .int .i64 0, .int .i64 0, .int .i64 0, .int .i64 0, .int .i64 0, .int .i64 0, .int .i64 0, .int .i64 0, .int .i64 0, .int .i64 0, .int .i64 0]) (t := 201) ?hr ?_; (case hd => rfl); (case hg => rfl); (case hr => first | (go_simp; done) | (go_simp; rfl)); intro b3 hb3 w3 Kb3 hb_; have Gb3 := Aside0.mk (by rw [hb3]; exact HB.out.size : W.heap.size ≤ b3); have Nb1_b3 := Aside0.mk (fun e => by have := blk_lt Kb1.out; omega : b1 ≠ b3); replace HB := Aside0.mk (below_step HB.out hb_); clear hb3; replace Kb1 := Aside0.mk ((hb_.block _ (blk_lt Kb1.out)).trans Kb1.out); clear hb_; replace Kb3 := Aside0.mk Kb3)
      | (refine store_agg rfl 201 (.tmp 3) (.tmp 6) rfl rfl b3 #[.int .i64 1, .int .i64 1048576, .int .i64 0, .int .i64 1048576, .int .i64 0, .int .i64 1048576, .int .i64 0, .int .i64 1048576, .int .i64 0, .int .i64 1048576, .int .i64 1, .int .i64 1048576, .int .i64 1, .int .i64 1048576, .int .i64 1, .int .i64 64, .int .i64 100, .int .i64 1048576] 201 _ rfl rfl Kb3.out size201 rfl (by simp [Value.oneCell']) ?_; intro w4 k_ g_; replace HB := Aside0.mk (HB.out.grown g_ HB.out.size (fun r e => by cases e; exact Gb3.out)); replace Kb1 := Aside0.mk (blk_grown Kb1.out g_ (fun e => by cases e; exact Nb1_b3.out rfl)); clear Kb3; have Kb3 := Aside0.mk k_; clear k_ g_; have cb3_0 := blk_cell Kb3.out 0; have cb3_1 := blk_cell Kb3.out 1; have cb3_2 := blk_cell Kb3.out 2; have cb3_3 := blk_cell Kb3.out 3; have cb3_4 := blk_cell Kb3.out 4; have cb3_5 := blk_cell Kb3.out 5; have cb3_6 := blk_cell Kb3.out 6; have cb3_7 := blk_cell Kb3.out 7; have cb3_8 := blk_cell Kb3.out 8; have cb3_9 := blk_cell Kb3.out 9; have cb3_10 := blk_cell Kb3.out 10; have cb3_11 := blk_cell Kb3.out 11; have cb3_12 := blk_cell Kb3.out 12; have cb3_13 := blk_cell Kb3.out 13; have cb3_14 := blk_cell Kb3.out 14; have cb3_15 := blk_cell Kb3.out 15; have cb3_16 := blk_cell Kb3.out 16; have cb3_17 := blk_cell Kb3.out 17; have cb1_0 := blk_cell Kb1.out 0; have cb1_1 := blk_cell Kb1.out 1; have cb1_2 := blk_cell Kb1.out 2; have cb1_3 := blk_cell Kb1.out 3; have cb1_4 := blk_cell Kb1.out 4; have cb1_5 := blk_cell Kb1.out 5; have cb1_6 := blk_cell Kb1.out 6; have cb1_7 := blk_cell Kb1.out 7; have cb1_8 := blk_cell Kb1.out 8; simp only [List.getElem?_toArray, List.getElem?_cons_zero, List.getElem?_cons_succ] at cb3_0 cb3_1 cb3_2 cb3_3 cb3_4 cb3_5 cb3_6 cb3_7 cb3_8 cb3_9 cb3_10 cb3_11 cb3_12 cb3_13 cb3_14 cb3_15 cb3_16 cb3_17 cb1_0 cb1_1 cb1_2 cb1_3 cb1_4 cb1_5 cb1_6 cb1_7 cb1_8)
      | (go_at_call 121; refine (numbers_calls _ p).mono ?_; rintro e w5 ⟨rfl, hb_⟩; replace HB := Aside0.mk (below_step HB.out hb_); replace cb3_0 := pw_cell_below hb_ cb3_0; replace cb3_1 := pw_cell_below hb_ cb3_1; replace cb3_2 := pw_cell_below hb_ cb3_2; replace cb3_3 := pw_cell_below hb_ cb3_3; replace cb3_4 := pw_cell_below hb_ cb3_4; replace cb3_5 := pw_cell_below hb_ cb3_5; replace cb3_6 := pw_cell_below hb_ cb3_6; replace cb3_7 := pw_cell_below hb_ cb3_7; replace cb3_8 := pw_cell_below hb_ cb3_8; replace cb3_9 := pw_cell_below hb_ cb3_9; replace cb3_10 := pw_cell_below hb_ cb3_10; replace cb3_11 := pw_cell_below hb_ cb3_11; replace cb3_12 := pw_cell_below hb_ cb3_12; replace cb3_13 := pw_cell_below hb_ cb3_13; replace cb3_14 := pw_cell_below hb_ cb3_14; replace cb3_15 := pw_cell_below hb_ cb3_15; replace cb3_16 := pw_cell_below hb_ cb3_16; replace cb3_17 := pw_cell_below hb_ cb3_17; clear hb_)
      | fail)
  refine wp_loop_rounds 10 ?_
  rw [rounds_succ]
  go_wp2
  rw [rounds_succ]
  go_wp2
  rw [rounds_succ]
  go_wp2
  rw [rounds_succ]
  go_wp2
  rw [rounds_succ]
  go_wp2
  rw [rounds_succ]
  go_wp2
  rw [rounds_succ]
  go_wp2
  rw [rounds_succ]
  go_wp2
  rw [rounds_succ]
  go_wp2
  rw [rounds_succ]
  go_wp2
  go_ret
  exact ⟨rfl, HB.out⟩
set_option maxRecDepth 100000 in
set_option maxHeartbeats 1000000 in
def lagP (p : Pol) (t : Int) : Int := if t = 1 then p.r1 else if t = 2 then p.r2 else p.r3
theorem lag_calls (W : World) (p : Pol) (t : Int) (ht : t = 1 ∨ t = 2 ∨ t = 3) : Calls Tryz.prog 83 #[.agg #[.int .i64 p.r0, .int .i64 p.r1, .int .i64 p.r2, .int .i64 p.r3, .int .i64 p.r4, .int .i64 p.r5, .int .i64 p.r6, .int .i64 p.r7, .int .i64 p.r8], .int .i64 t] W fun e w' => e = .returned (.tuple #[.int .i64 (lagP p t), .bool true]) ∧ Below W.heap.size W w' := by
  have HB := Aside0.mk (Below.refl W.heap.size W)
  rcases ht with rfl | rfl | rfl
  all_goals
    go_enter Tryz.func83, Tryz.ntmps83
    go_wp2_with (first
      | ((with_reducible refine gate_dst (N := 2) rfl ?_); refine box_event ?hg (N := 2) ?hd (cs := #[.int .i64 p.r0, .int .i64 p.r1, .int .i64 p.r2, .int .i64 p.r3, .int .i64 p.r4, .int .i64 p.r5, .int .i64 p.r6, .int .i64 p.r7, .int .i64 p.r8]) (t := 25) ?hr ?_; (case hd => rfl); (case hg => rfl); (case hr => first | (go_simp; done) | (go_simp; rfl)); intro b2 hb2 w1 Kb2 hb_; have Gb2 := Aside0.mk (by rw [hb2]; exact HB.out.size : W.heap.size ≤ b2); replace HB := Aside0.mk (below_step HB.out hb_); clear hb2; clear hb_; have cb2_0 := blk_cell Kb2 0; have cb2_1 := blk_cell Kb2 1; have cb2_2 := blk_cell Kb2 2; have cb2_3 := blk_cell Kb2 3; have cb2_4 := blk_cell Kb2 4; have cb2_5 := blk_cell Kb2 5; have cb2_6 := blk_cell Kb2 6; have cb2_7 := blk_cell Kb2 7; have cb2_8 := blk_cell Kb2 8; simp only [List.getElem?_toArray, List.getElem?_cons_zero, List.getElem?_cons_succ] at cb2_0 cb2_1 cb2_2 cb2_3 cb2_4 cb2_5 cb2_6 cb2_7 cb2_8; replace Kb2 := Aside0.mk Kb2)
      | ((with_reducible refine gate_dst (N := 6) rfl ?_); refine box_event ?hg (N := 6) ?hd (cs := #[.int .i64 0, .int .i64 0, .int .i64 0, .int .i64 0]) (t := 205) ?hr ?_; (case hd => rfl); (case hg => rfl); (case hr => first | (go_simp; done) | (go_simp; rfl)); intro b6 hb6 w2 Kb6 hb_; have Gb6 := Aside0.mk (by rw [hb6]; exact HB.out.size : W.heap.size ≤ b6); replace HB := Aside0.mk (below_step HB.out hb_); clear hb6; replace cb2_0 := pw_cell_below hb_ cb2_0; replace cb2_1 := pw_cell_below hb_ cb2_1; replace cb2_2 := pw_cell_below hb_ cb2_2; replace cb2_3 := pw_cell_below hb_ cb2_3; replace cb2_4 := pw_cell_below hb_ cb2_4; replace cb2_5 := pw_cell_below hb_ cb2_5; replace cb2_6 := pw_cell_below hb_ cb2_6; replace cb2_7 := pw_cell_below hb_ cb2_7; replace cb2_8 := pw_cell_below hb_ cb2_8; clear hb_; replace Kb6 := Aside0.mk Kb6)
      | (refine store_agg rfl 205 (.tmp 6) (.tmp 13) rfl rfl b6 #[.int .i64 0, .int .i64 p.r1, .int .i64 p.r2, .int .i64 p.r3] 205 _ rfl rfl Kb6.out size205 rfl (by simp [Value.oneCell']) ?_; intro w3 k_ g_; replace HB := Aside0.mk (HB.out.grown g_ HB.out.size (fun r e => by cases e; exact Gb6.out)); clear Kb6; have Kb6 := Aside0.mk k_; clear k_ g_; clear cb2_0; clear cb2_1; clear cb2_2; clear cb2_3; clear cb2_4; clear cb2_5; clear cb2_6; clear cb2_7; clear cb2_8; have cb6_0 := blk_cell Kb6.out 0; have cb6_1 := blk_cell Kb6.out 1; have cb6_2 := blk_cell Kb6.out 2; have cb6_3 := blk_cell Kb6.out 3; simp only [List.getElem?_toArray, List.getElem?_cons_zero, List.getElem?_cons_succ] at cb6_0 cb6_1 cb6_2 cb6_3)
      | fail)
    go_ret2
    exact ⟨rfl, HB.out⟩
end Go.Proofs.YthhmfeiefbnhcaaGreat.Due
namespace Go.Proofs.YthhmfeiefbnhcaaGreat.Due
open Go.RowKit Go.Proofs.YthhmfeiefbnhcaaGreat.PDueParts Go.Proofs.YthhmfeiefbnhcaaGreatW.PrintWords
set_option linter.unusedVariables false
def pEnd (q : S183) : Int := endP q.f1.f0.f0 q.f1.f0.f1
structure GoodL (l : List S183) : Prop where
  right : ∀ q ∈ l, rightP q.f1.f0.f0 q.f1.f0.f1 = true
  key : ∀ q ∈ l, q.f0 = fromP q.f1.f0.f0 q.f1.f0.f1
  apart : l.Pairwise (fun a b => pEnd a ≤ b.f0)
theorem from_lo {t i : Int} (h : rightP t i = true) : fromP t i = lo t i := by rw [fromP, if_pos h]
theorem end_lo {t i : Int} (h : rightP t i = true) : endP t i = lo t (i + 1) := by rw [endP, if_pos h]
theorem GoodL.lt {l : List S183} (h : GoodL l) {q : S183} (hq : q ∈ l) : q.f0 < pEnd q := by
  rw [h.key q hq, pEnd, from_lo (h.right q hq), end_lo (h.right q hq)]
  exact (lo_bd (h.right q hq)).2.1
theorem GoodL.rising {l : List S183} (h : GoodL l) : Rising l :=
  h.apart.imp_of_mem (fun {a b} ha hb hab => by have := h.lt ha; omega)
theorem hasP_iff {t i x : Int} (h : rightP t i = true) : hasP t i x = true ↔ fromP t i ≤ x ∧ x < endP t i := by
  obtain ⟨ht, h0, _⟩ := right_t h
  unfold hasP
  rw [from_lo h, end_lo h]
  by_cases c : (okH x && okT t) = true
  · rw [if_pos c, decide_eq_true_iff]
    obtain ⟨hx, _⟩ := Bool.and_eq_true_iff.1 c
    constructor
    · rintro rfl
      have := idx_lo ht hx
      exact ⟨this.1, this.2.1⟩
    · rintro ⟨h1, h2⟩
      exact idx_uniq ht hx h0 h1 h2
  · rw [if_neg c]
    simp
theorem GoodL.floor {l : List S183} (h : GoodL l) {q : S183} (hq : q ∈ l) {x : Int} (h1 : q.f0 ≤ x) (h2 : x < pEnd q) : floorP l x = some q := by
  obtain ⟨i, hi, rfl⟩ := List.getElem_of_mem hq
  have hr := h.rising
  have hbig : ∀ j (hj : j < l.length), i < j → x < (l[j]).f0 := fun j hj hij => by
    have := List.pairwise_iff_getElem.1 h.apart i j hi hj hij
    omega
  have hle := below_le l x
  by_cases e : (l[i]).f0 = x
  · have hk : hasKey l x = true := List.any_eq_true.2 ⟨_, List.getElem_mem hi, by simpa using e⟩
    have hb : below l x = i := by
      have n1 : ¬ i < below l x := fun h3 => by have := (below_iff hr x i hi).2 h3; omega
      apply Classical.byContradiction
      intro hne
      have hlt : below l x < i := by omega
      have h3 := List.pairwise_iff_getElem.1 hr (below l x) i (by omega) hi hlt
      have h4 := (below_iff hr x (below l x) (by omega)).1 (by omega)
      omega
    rw [floorP, if_pos hk, hb, List.getElem?_eq_getElem hi]
  · have hk : hasKey l x = false := by
      cases hk : hasKey l x
      · rfl
      · obtain ⟨q', hq', e'⟩ := List.any_eq_true.1 hk
        obtain ⟨j, hj, rfl⟩ := List.getElem_of_mem hq'
        have e2 : (l[j]).f0 = x := by simpa using e'
        rcases Nat.lt_trichotomy i j with h3 | h3 | h3
        · have := hbig j hj h3; omega
        · subst h3; omega
        · have := List.pairwise_iff_getElem.1 hr j i hj hi h3; omega
    have hb : below l x = i + 1 := by
      have n1 : i < below l x := (below_iff hr x i hi).1 (by omega)
      apply Classical.byContradiction
      intro hne
      have hlt : i + 1 < below l x := by omega
      have := (below_iff hr x (i + 1) (by omega)).2 hlt
      have := hbig (i + 1) (by omega) (by omega)
      omega
    rw [floorP, if_neg (by rw [hk]; decide), if_neg (by omega), hb, Nat.add_sub_cancel, List.getElem?_eq_getElem hi]
theorem floorP_mem {l : List S183} {x : Int} {q : S183} (h : floorP l x = some q) : q ∈ l := by
  unfold floorP at h
  split at h
  · exact List.mem_of_getElem? h
  · split at h
    · cases h
    · exact List.mem_of_getElem? h
theorem GoodL.at_of {l : List S183} (h : GoodL l) {q : S183} (hq : q ∈ l) {x : Int} (h1 : q.f0 ≤ x) (h2 : x < pEnd q) : atI l x = true ∧ atD l x = q.f1 := by
  have hf := h.floor hq h1 h2
  have hd : floorD l x = q := by rw [floorD, hf]; rfl
  have hI : atI l x = true := by
    rw [atI, hd, floorI, hf]
    show (true && _) = true
    rw [Bool.true_and, hasP_iff (h.right q hq), ← h.key q hq]
    exact ⟨h1, h2⟩
  exact ⟨hI, by rw [atD, if_pos hI, hd]⟩
theorem GoodL.of_at {l : List S183} (h : GoodL l) {x : Int} (hx : atI l x = true) : ∃ q ∈ l, q.f0 ≤ x ∧ x < pEnd q ∧ atD l x = q.f1 := by
  have hx' := hx
  unfold atI at hx
  obtain ⟨h1, h2⟩ := Bool.and_eq_true_iff.1 hx
  obtain ⟨q, hq⟩ := Option.isSome_iff_exists.1 h1
  have hd : floorD l x = q := by rw [floorD, hq]; rfl
  have hm := floorP_mem hq
  rw [hd, hasP_iff (h.right q hm), ← h.key q hm] at h2
  exact ⟨q, hm, h2.1, h2.2, by rw [atD, if_pos hx', hd]⟩
theorem mem_mid {l : List S183} (h : GoodL l) {f t : Int} {q : S183} (hq : q ∈ l) : q ∈ (l.take (below l t)).drop (below l f) ↔ f ≤ q.f0 ∧ q.f0 < t := by
  have hr := h.rising
  constructor
  · intro hm
    obtain ⟨j, hj, e⟩ := List.getElem_of_mem hm
    rw [List.length_drop, List.length_take] at hj
    have hj2 : below l f + j < l.length := by omega
    have e2 : l[below l f + j] = q := by rw [← e]; simp
    have h1 := below_iff hr t (below l f + j) hj2
    have h2 := below_iff hr f (below l f + j) hj2
    rw [e2] at h1 h2
    constructor
    · apply Classical.byContradiction
      intro hn
      have := h2.1 (by omega)
      omega
    · exact h1.2 (by omega)
  · rintro ⟨h1, h2⟩
    obtain ⟨i, hi, rfl⟩ := List.getElem_of_mem hq
    have a := (below_iff hr t i hi).1 h2
    have b : ¬ i < below l f := fun h3 => by have := (below_iff hr f i hi).2 h3; omega
    refine List.mem_iff_getElem.2 ⟨i - below l f, by rw [List.length_drop, List.length_take]; omega, ?_⟩
    simp
    congr 1
    omega
theorem over_nil {l : List S183} (h : GoodL l) {f t : Int} (hft : f < t) : overP l f t = [] ↔ ∀ q ∈ l, ¬ (q.f0 < t ∧ f < pEnd q) := by
  unfold overP
  rw [List.append_eq_nil_iff]
  constructor
  · rintro ⟨h1, h2⟩ q hq ⟨h3, h4⟩
    by_cases c : q.f0 ≤ f
    · have := (h.at_of hq c h4).1
      rw [overH, if_pos this] at h1
      cases h1
    · have hm : q ∈ (l.take (below l t)).drop (below l f) := (mem_mid h hq).2 ⟨by omega, h3⟩
      have : q.f1 ∈ overT f ((l.take (below l t)).drop (below l f)) := List.mem_map.2 ⟨q, List.mem_filter.2 ⟨hm, by simp; omega⟩, rfl⟩
      rw [h2] at this
      cases this
  · intro hn
    constructor
    · unfold overH
      split
      · rename_i hx
        obtain ⟨q, hq, h1, h2, _⟩ := h.of_at hx
        exact absurd ⟨by omega, h2⟩ (hn q hq)
      · rfl
    · apply List.eq_nil_iff_forall_not_mem.2
      intro y hy
      obtain ⟨q, hq, rfl⟩ := List.mem_map.1 hy
      obtain ⟨hm, _⟩ := List.mem_filter.1 hq
      have hql : q ∈ l := List.mem_of_mem_take (List.mem_of_mem_drop hm)
      have := (mem_mid h hql).1 hm
      exact hn q hql ⟨this.2, by have := h.lt hql; omega⟩
theorem over_key {l : List S183} (h : GoodL l) {f t : Int} (hft : f < t) (ho : overP l f t = []) : hasKey l f = false := by
  cases hk : hasKey l f
  · rfl
  · obtain ⟨q, hq, e⟩ := List.any_eq_true.1 hk
    have e1 : q.f0 = f := by simpa using e
    have := (over_nil h hft).1 ho q hq
    exact absurd ⟨by omega, by have := h.lt hq; omega⟩ this
theorem GoodL.ins {l : List S183} (h : GoodL l) {x : S43} (hx : rightP x.f0.f0 x.f0.f1 = true) (ho : overP l (fromP x.f0.f0 x.f0.f1) (endP x.f0.f0 x.f0.f1) = []) : GoodL (insAt l (fromP x.f0.f0 x.f0.f1) x) := by
  have hlt : fromP x.f0.f0 x.f0.f1 < endP x.f0.f0 x.f0.f1 := by rw [from_lo hx, end_lo hx]; exact (lo_bd hx).2.1
  have hn := (over_nil h hlt).1 ho
  have hr := h.rising
  have hmem : ∀ q, q ∈ insAt l (fromP x.f0.f0 x.f0.f1) x ↔ q ∈ l ∨ q = ⟨fromP x.f0.f0 x.f0.f1, x⟩ := by
    intro q
    unfold insAt
    rw [List.mem_append, List.mem_cons]
    constructor
    · rintro (h1 | h1 | h1)
      · exact .inl (List.mem_of_mem_take h1)
      · exact .inr h1
      · exact .inl (List.mem_of_mem_drop h1)
    · rintro (h1 | h1)
      · rw [← List.take_append_drop (below l (fromP x.f0.f0 x.f0.f1)) l, List.mem_append] at h1
        exact h1.elim .inl (fun h => .inr (.inr h))
      · exact .inr (.inl h1)
  refine ⟨fun q hq => ?_, fun q hq => ?_, ?_⟩
  · rcases (hmem q).1 hq with h1 | rfl
    · exact h.right q h1
    · exact hx
  · rcases (hmem q).1 hq with h1 | rfl
    · exact h.key q h1
    · rfl
  · unfold insAt
    have hap := h.apart
    rw [← List.take_append_drop (below l (fromP x.f0.f0 x.f0.f1)) l] at hap
    obtain ⟨p1, p2, p3⟩ := List.pairwise_append.1 hap
    have ht : ∀ q ∈ l.take (below l (fromP x.f0.f0 x.f0.f1)), pEnd q ≤ fromP x.f0.f0 x.f0.f1 := fun q hq => by
      have hql := List.mem_of_mem_take hq
      obtain ⟨j, hj, e⟩ := List.getElem_of_mem hq
      rw [List.length_take] at hj
      have e2 : l[j]'(by omega) = q := by rw [← e]; simp
      have := (below_iff hr (fromP x.f0.f0 x.f0.f1) j (by omega)).2 (by omega)
      rw [e2] at this
      have := hn q hql
      omega
    have hd : ∀ q ∈ l.drop (below l (fromP x.f0.f0 x.f0.f1)), endP x.f0.f0 x.f0.f1 ≤ q.f0 := fun q hq => by
      have hql := List.mem_of_mem_drop hq
      obtain ⟨j, hj, e⟩ := List.getElem_of_mem hq
      rw [List.length_drop] at hj
      have e2 : l[below l (fromP x.f0.f0 x.f0.f1) + j]'(by omega) = q := by rw [← e]; simp
      have h2 := below_iff hr (fromP x.f0.f0 x.f0.f1) (below l (fromP x.f0.f0 x.f0.f1) + j) (by omega)
      rw [e2] at h2
      have h3 : ¬ q.f0 < fromP x.f0.f0 x.f0.f1 := fun h4 => by have := h2.1 h4; omega
      have := hn q hql
      have := h.lt hql
      omega
    refine List.pairwise_append.2 ⟨p1, List.pairwise_cons.2 ⟨fun b hb => hd b hb, p2⟩, fun a ha b hb => ?_⟩
    rcases List.mem_cons.1 hb with rfl | hb
    · exact ht a ha
    · exact p3 a ha b hb
end Go.Proofs.YthhmfeiefbnhcaaGreat.Due
namespace Go.Proofs.YthhmfeiefbnhcaaGreat.Due
open Go.RowKit Go.Proofs.YthhmfeiefbnhcaaGreat.PDueParts Go.Proofs.YthhmfeiefbnhcaaGreatW.PrintWords
set_option linter.unusedVariables false
def meE (e x : S43) : Bool := meetsP e.f0.f0 e.f0.f1 x.f0.f0 x.f0.f1
def leE (e x : S43) : Bool := lessP e.f0.f0 e.f0.f1 x.f0.f0 x.f0.f1
def lastLess (x : S43) : List S43 → Nat → Nat → Option Nat
  | [], _, k => some k
  | e :: r, i, k => if meE e x = true then none else if leE e x = true then lastLess x r (i + 1) (i + 1) else lastLess x r (i + 1) k
theorem rd_at (pre r : List S43) (e : S43) : rd_T43 (pre ++ e :: r) (pre.length : Nat) = e := by
  unfold rd_T43
  rw [Int.toNat_natCast, List.getD_eq_getElem?_getD]
  simp
theorem put_l0 (x : S43) : ∀ (r pre : List S43) (k K : Nat), 3002 + r.length ≤ k → (pre ++ r).length ≤ 1000000 → K ≤ pre.length →
    ossuaryref20_put.l0 k (pre ++ r) (K : Nat) (pre.length : Nat) x.f0.f0 x.f0.f1 x.f1 x.f2 x.f3 x.f4 = (match lastLess x r pre.length K with | none => some ([], 12) | some K' => some ((pre ++ r).take K' ++ x :: (pre ++ r).drop K', 0))
  | [], pre, 0, K, hk, _, _ => absurd hk (by omega)
  | [], pre, k + 1, K, hk, hl, hK => by
    rw [ossuaryref20_put.l0, if_neg (by simp)]
    simp only [List.append_nil] at *
    simp only [Option.bind_some, lastLess]
    rw [if_pos (by omega), if_pos (by omega), Int.toNat_natCast]
    have h1 : (pre.take K).length ≤ 1000000 := by rw [List.length_take]; omega
    have h2 : (pre.drop K).length ≤ 1000000 := by rw [List.length_drop]; omega
    rw [if_pos (by simp; omega), if_pos (by simp; omega), if_pos (by simp; omega)]
    simp
  | e :: r, pre, 0, K, hk, _, _ => absurd hk (by omega)
  | e :: r, pre, k + 1, K, hk, hl, hK => by
    have hl2 : (pre ++ e :: r).length = pre.length + r.length + 1 := by simp; omega
    rw [ossuaryref20_put.l0, if_pos (by rw [hl2]; omega), if_pos (by omega), rd_at, refMeets_eq k (by simp at hk; omega), refLess_eq k (by simp at hk; omega)]
    simp only [Option.bind_some]
    have hw : wrap64 ((pre.length : Nat) + 1 : Int) = (((pre ++ [e]).length : Nat) : Int) := by
      rw [wr (by omega) (by omega)]; simp
    have happ : pre ++ e :: r = (pre ++ [e]) ++ r := by simp
    have hlen1 : (pre ++ [e]).length = pre.length + 1 := by simp
    unfold lastLess
    show (if meE e x = true then _ else (if leE e x = true then _ else _)) = _
    by_cases hm : meE e x = true
    · rw [if_pos hm, if_pos hm]
    · rw [if_neg hm, if_neg hm]
      by_cases hle : leE e x = true
      · rw [if_pos hle, if_pos hle, hw, happ]
        have := put_l0 x r (pre ++ [e]) k (pre ++ [e]).length (by simp at hk; omega) (by rw [← happ]; exact hl) (Nat.le_refl _)
        rw [this, hlen1]
      · rw [if_neg hle, if_neg hle, hw, happ]
        have := put_l0 x r (pre ++ [e]) k K (by simp at hk; omega) (by rw [← happ]; exact hl) (by rw [hlen1]; omega)
        rw [this, hlen1]
theorem lastLess_good (x : S43) (hx : rightP x.f0.f0 x.f0.f1 = true) : ∀ (l : List S183) (i k : Nat), GoodL l → (∀ q ∈ l, meE q.f1 x = false) → lastLess x (l.map (·.f1)) i k = some (if below l (fromP x.f0.f0 x.f0.f1) = 0 then k else i + below l (fromP x.f0.f0 x.f0.f1))
  | [], i, k, _, _ => by simp [lastLess, below]
  | q :: l, i, k, h, hn => by
    have hl : GoodL l := ⟨fun a ha => h.right a (by simp [ha]), fun a ha => h.key a (by simp [ha]), (List.pairwise_cons.1 h.apart).2⟩
    have hq := hn q (by simp)
    have hqr := h.right q (by simp)
    have hqk := h.key q (by simp)
    have hqlt := h.lt (q := q) (by simp)
    have hb : below (q :: l) (fromP x.f0.f0 x.f0.f1) = below l (fromP x.f0.f0 x.f0.f1) + if q.f0 < fromP x.f0.f0 x.f0.f1 then 1 else 0 := by
      unfold below; rw [List.countP_cons]; simp
    have hle : leE q.f1 x = decide (q.f0 < fromP x.f0.f0 x.f0.f1) := by
      have hxlt : fromP x.f0.f0 x.f0.f1 < endP x.f0.f0 x.f0.f1 := by rw [from_lo hx, end_lo hx]; exact (lo_bd hx).2.1
      unfold meE meetsP at hq
      rw [hqr, hx] at hq
      unfold leE lessP
      rw [hqr, hx, ← hqk]
      rw [← hqk] at hq
      unfold pEnd at hqlt
      simp at hq ⊢
      intro h1 h2
      have := hq (by omega)
      omega
    rw [List.map_cons]
    unfold lastLess
    rw [if_neg (by rw [hq]; decide), hle]
    by_cases c : q.f0 < fromP x.f0.f0 x.f0.f1
    · rw [if_pos (by simpa using c), lastLess_good x hx l (i + 1) (i + 1) hl (fun a ha => hn a (by simp [ha])), hb, if_pos c]
      by_cases c2 : below l (fromP x.f0.f0 x.f0.f1) = 0
      · rw [if_pos c2, c2, if_neg (by omega)]
      · rw [if_neg c2, if_neg (by omega)]; congr 1; omega
    · have h0 : below l (fromP x.f0.f0 x.f0.f1) = 0 := by
        unfold below
        rw [List.countP_eq_zero]
        intro a ha
        have := (List.pairwise_cons.1 h.rising).1 a ha
        simp; omega
      rw [if_neg (by simpa using c), lastLess_good x hx l (i + 1) k hl (fun a ha => hn a (by simp [ha])), hb, if_neg c, h0]
      simp
theorem lastLess_meet (x : S43) : ∀ (l : List S183) (i k : Nat), (∃ q ∈ l, meE q.f1 x = true) → lastLess x (l.map (·.f1)) i k = none
  | [], _, _, h => by obtain ⟨q, hq, _⟩ := h; cases hq
  | q :: l, i, k, h => by
    rw [List.map_cons]
    unfold lastLess
    by_cases c : meE q.f1 x = true
    · rw [if_pos c]
    · rw [if_neg c]
      obtain ⟨a, ha, hm⟩ := h
      have ha2 : a ∈ l := (List.mem_cons.1 ha).resolve_left (fun e => c (by rw [← e]; exact hm))
      split
      · exact lastLess_meet x l _ _ ⟨a, ha2, hm⟩
      · exact lastLess_meet x l _ _ ⟨a, ha2, hm⟩
theorem cputP_fail' {l : List S183} {x : S43} (h : ¬ (cputP l x).1 = 0) : (cputP l x).2 = l := by
  unfold cputP at *
  split
  · split
    · rename_i a b
      rw [if_pos a, if_pos b] at h; exact absurd rfl h
    · rfl
  · rfl
theorem refIn_eq (n lo : Int) : ossuaryref20_in.f n lo 4611686018427387904 = some (inB n lo) := by
  unfold ossuaryref20_in.f inB
  by_cases c : n ≥ lo
  · rw [if_pos c, decide_eq_true c]; rfl
  · rw [if_neg c, decide_eq_false c]; rfl
theorem refRightE_eq (k : Nat) (hk : 3000 ≤ k) (x : S43) : ossuaryref20_Right.f k x.f0.f0 x.f0.f1 x.f1 x.f2 x.f3 x.f4 = some (rightE x) := by
  unfold ossuaryref20_Right.f rightE
  rw [refRight_eq k hk, refIn_eq, refIn_eq, refIn_eq]
  simp only [Option.bind_some]
  cases rightP x.f0.f0 x.f0.f1 <;> cases inB x.f1 1 <;> cases inB x.f3 1 <;> cases inB x.f2 0 <;> cases x.f4 <;> simp
  rfl
theorem rightE_P {x : S43} (h : rightE x = true) : rightP x.f0.f0 x.f0.f1 = true := by unfold rightE at h; exact (Bool.and_eq_true_iff.1 h).1
theorem over_meets {l : List S183} (h : GoodL l) {x : S43} (hx : rightP x.f0.f0 x.f0.f1 = true) : overP l (fromP x.f0.f0 x.f0.f1) (endP x.f0.f0 x.f0.f1) = [] ↔ ∀ q ∈ l, meE q.f1 x = false := by
  have hlt : fromP x.f0.f0 x.f0.f1 < endP x.f0.f0 x.f0.f1 := by rw [from_lo hx, end_lo hx]; exact (lo_bd hx).2.1
  rw [over_nil h hlt]
  constructor
  · intro hn q hq
    have := hn q hq
    rw [h.key q hq] at this
    unfold pEnd at this
    unfold meE meetsP
    rw [h.right q hq, hx]
    simp
    omega
  · intro hn q hq
    have := hn q hq
    unfold meE meetsP at this
    rw [h.right q hq, hx, ← h.key q hq] at this
    unfold pEnd
    simp at this
    omega
theorem insAt_map (l : List S183) (f : Int) (x : S43) : (insAt l f x).map (·.f1) = (l.map (·.f1)).take (below l f) ++ x :: (l.map (·.f1)).drop (below l f) := by
  simp [insAt, List.map_take, List.map_drop]
theorem ref_put {l : List S183} (h : GoodL l) (x : S43) (k : Nat) (hk : 4000 + l.length ≤ k) (hsz : l.length ≤ 1000000) :
    ossuaryref20_put.f k (l.map (·.f1)) x.f0.f0 x.f0.f1 x.f1 x.f2 x.f3 x.f4 = some (if (cputP l x).1 = 0 then ((cputP l x).2.map (·.f1)) else [], (cputP l x).1) := by
  unfold ossuaryref20_put.f
  rw [refRightE_eq k (by omega)]
  simp only [Option.bind_some]
  unfold cputP
  by_cases hr : rightE x = true
  · have hx := rightE_P hr
    rw [if_pos hr, if_pos hr]
    have hp := put_l0 x (l.map (·.f1)) [] k 0 (by simp; omega) (by simpa using hsz) (Nat.le_refl _)
    simp only [List.nil_append, List.length_nil] at hp
    have e0 : (((0 : Nat) : Int)) = 0 := rfl
    rw [e0] at hp
    rw [hp]
    by_cases ho : overP l (fromP x.f0.f0 x.f0.f1) (endP x.f0.f0 x.f0.f1) = []
    · rw [if_pos ho, lastLess_good x hx l 0 0 h ((over_meets h hx).1 ho)]
      simp only [Nat.zero_add, if_true]
      have e1 : (if below l (fromP x.f0.f0 x.f0.f1) = 0 then 0 else below l (fromP x.f0.f0 x.f0.f1)) = below l (fromP x.f0.f0 x.f0.f1) := by split <;> omega
      rw [e1, insAt_map]
    · rw [if_neg ho, lastLess_meet x l 0 0 (by
        apply Classical.byContradiction
        intro hn
        exact ho ((over_meets h hx).2 (fun q hq => by
          cases hm : meE q.f1 x
          · rfl
          · exact absurd ⟨q, hq, hm⟩ hn)))]
      rfl
  · rw [if_neg hr, if_neg hr]
    rfl
theorem ref_apply {l : List S183} (h : GoodL l) (x : S43) (k : Nat) (hk : 5000 + l.length ≤ k) (hsz : l.length ≤ 1000000) :
    ossuaryref20_Apply.f k (l.map (·.f1)) [] [x] = some ((cputP l x).2.map (·.f1), (cputP l x).1) := by
  obtain ⟨k, rfl⟩ : ∃ q, k = q + 3 := ⟨k - 3, by omega⟩
  unfold ossuaryref20_Apply.f
  rw [ossuaryref20_Apply.l0, if_neg (by simp), ossuaryref20_Apply.l1, if_pos (by simp), if_pos (by decide)]
  have e : rd_T43 [x] 0 = x := rfl
  rw [e, ref_put h x (k + 1) (by omega) hsz]
  simp only [Option.bind_some]
  by_cases hf : (cputP l x).1 = 0
  · rw [if_pos hf, if_pos hf, ossuaryref20_Apply.l1, if_neg (by rw [wr (by omega) (by omega)]; simp), hf]
  · rw [if_neg hf, cputP_fail' hf]
theorem good_put {l : List S183} (h : GoodL l) (x : S43) : GoodL (cputP l x).2 := by
  unfold cputP
  split
  · rename_i hr
    split
    · rename_i ho
      exact h.ins (rightE_P hr) ho
    · exact h
  · exact h
end Go.Proofs.YthhmfeiefbnhcaaGreat.Due
