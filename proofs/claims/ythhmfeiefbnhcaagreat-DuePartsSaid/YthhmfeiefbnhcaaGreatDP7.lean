/-
  Part 7 of the proof: DMade0 DMade.
-/
import Derived.Test.YthhmfeiefbnhcaaGreatDP6
namespace Go.Proofs.YthhmfeiefbnhcaaGreat.Due
open Go.RowKit Go.Proofs.YthhmfeiefbnhcaaGreat.PDueParts Go.Proofs.YthhmfeiefbnhcaaGreatW.PrintWords Go.Proofs.YthhmfeiefbnhcaaGreatW.PrintLast
set_option linter.unusedVariables false
set_option linter.unusedSimpArgs false
theorem size30 : (Tryz.prog.info? 30).map (·.size) = some 14 := by kernel_rfl
theorem size31 : (Tryz.prog.info? 31).map (·.size) = some 14 := by kernel_rfl
theorem results_cct {fn : Func} {p p' u : Tmp} {ty ty' : TypeId} (h : fn.results = #[.cell p ty, .cell p' ty', .tmp u]) (tmps : Array Value) (w : World) (g g' : Nat) (t t' : TypeId) (cs cs' : Array Value) (fr fr' : Nat × Nat) (d d' : TypeDesc)
    (hp : tmps.getD p undef = .pointer (some ⟨g, 0, none⟩)) (hg : w.heap[g]? = some (.cells cs t fr))
    (hu : Tryz.prog.underlying ty = some d) (hd : (match d with | .struct _ | .array _ _ => true | _ => false) = true) (hi : (Tryz.prog.info? ty).map (·.size) = some cs.size)
    (hp' : tmps.getD p' undef = .pointer (some ⟨g', 0, none⟩)) (hg' : w.heap[g']? = some (.cells cs' t' fr'))
    (hu' : Tryz.prog.underlying ty' = some d') (hd' : (match d' with | .struct _ | .array _ _ => true | _ => false) = true) (hi' : (Tryz.prog.info? ty').map (·.size) = some cs'.size) :
    (results fn tmps).run Tryz.prog w = .ok (.tuple #[.agg cs, .agg cs', tmps.getD u undef]) w := by
  have h1 : tmps[p]?.getD undef = .pointer (some ⟨g, 0, none⟩) := by simpa using hp
  have h2 : tmps[p']?.getD undef = .pointer (some ⟨g', 0, none⟩) := by simpa using hp'
  simp [results, h, h1, h2, asAddr, run_loadVar_row w g t ty cs fr d hg hu (by cases d <;> first | rfl | cases hd) hi, run_loadVar_row w g' t' ty' cs' fr' d' hg' hu' (by cases d' <;> first | rfl | cases hd') hi']
theorem in18 (n lo hi : Int) : ossuaryref18_in.f n lo hi = some (decide (lo ≤ n) && decide (n ≤ hi)) := by
  unfold ossuaryref18_in.f
  by_cases c : n ≥ lo
  · rw [if_pos c, decide_eq_true c]; rfl
  · rw [if_neg c, decide_eq_false c]; rfl
theorem check18 (p : Pol) : ∃ r : Int, ossuaryref18_Check.f 5 p.r0 p.r1 p.r2 p.r3 p.r4 p.r5 p.r6 p.r7 p.r8 = some r ∧ (r = 0 ↔ p.ok) ∧ (r = 0 ∨ r = 2) := by
  unfold ossuaryref18_Check.f
  simp only [in18, Option.bind_some, ossuaryref18_Check.j0]
  unfold Pol.ok
  repeat' split
  all_goals refine ⟨_, rfl, ?_, ?_⟩
  all_goals first | omega | (simp at *; done) | (simp at *; omega)
def Spoken (xs : List S43) (hs : List Int) (p : Pol) (hour floor : Int) : Prop := xs.length ≤ 40 ∧ hs.length ≤ 40 ∧ p.ok ∧ 0 ≤ hour ∧ hour ≤ 1099511627776 ∧ 0 ≤ floor ∧ floor ≤ 16777217
set_option maxRecDepth 100000 in
set_option maxHeartbeats 8000000 in
theorem made_no (W : World) (Al : Option Addr) (cl : Nat) (xs : List S43) (Ah : Option Addr) (ch : Nat) (hs : List Int) (p : Pol) (hour floor : Int) (sw : Bool) (hxl : xs.length ≤ 9223372036854775807) (hhl : hs.length ≤ 9223372036854775807) (hno : ¬ Spoken xs hs p hour floor) :
    Calls Tryz.prog 6 #[.agg #[.slice Al xs.length cl, .slice Ah hs.length ch, .int .i64 p.r0, .int .i64 p.r1, .int .i64 p.r2, .int .i64 p.r3, .int .i64 p.r4, .int .i64 p.r5, .int .i64 p.r6, .int .i64 p.r7, .int .i64 p.r8, .int .i64 hour, .int .i64 floor, .bool sw]] W fun e w' => e = .returned (.tuple #[.agg #[.pointer none, .slice none 0 0, .int .i64 0, .int .i64 0, .int .i64 0, .int .i64 0, .int .i64 0, .int .i64 0, .int .i64 0, .int .i64 0, .int .i64 0, .int .i64 0, .int .i64 0, .bool false], .agg #[.slice none 0 0, .slice none 0 0, .int .i64 0, .int .i64 0, .int .i64 0, .int .i64 0, .int .i64 0, .int .i64 0, .int .i64 0, .int .i64 0, .int .i64 0, .int .i64 0, .int .i64 0, .bool false], .bool false]) ∧ Below W.heap.size W w' := by
  obtain ⟨rv, hck, hrv, h02⟩ := check18 p
  have HCK := Aside0.mk hck
  have HB := Aside0.mk (Below.refl W.heap.size W)
  clear hck
  by_cases h1 : 40 < xs.length
  · have h1' : (40 : Int) < (xs.length : Int) := by omega
    clear hno hrv h02
    go_enter Tryz.func6, Tryz.ntmps6
    go_wp2_with (first
      | ((with_reducible refine gate_dst (N := 1) rfl ?_); refine box_event ?hg (N := 1) ?hd (cs := #[.slice Al xs.length cl, .slice Ah hs.length ch, .int .i64 p.r0, .int .i64 p.r1, .int .i64 p.r2, .int .i64 p.r3, .int .i64 p.r4, .int .i64 p.r5, .int .i64 p.r6, .int .i64 p.r7, .int .i64 p.r8, .int .i64 hour, .int .i64 floor, .bool sw]) (t := 27) ?hr ?_; (case hd => rfl); (case hg => rfl); (case hr => first | (go_simp; done) | (go_simp; rfl)); intro b1 hb1 w1 Kb1 hb_; have Gb1 := Aside0.mk (by rw [hb1]; exact HB.out.size : W.heap.size ≤ b1); replace HB := Aside0.mk (below_step HB.out hb_); clear hb1; clear hb_; have cb1_0 := blk_cell Kb1 0; have cb1_1 := blk_cell Kb1 1; have cb1_2 := blk_cell Kb1 2; have cb1_3 := blk_cell Kb1 3; have cb1_4 := blk_cell Kb1 4; have cb1_5 := blk_cell Kb1 5; have cb1_6 := blk_cell Kb1 6; have cb1_7 := blk_cell Kb1 7; have cb1_8 := blk_cell Kb1 8; have cb1_9 := blk_cell Kb1 9; have cb1_10 := blk_cell Kb1 10; have cb1_11 := blk_cell Kb1 11; have cb1_12 := blk_cell Kb1 12; have cb1_13 := blk_cell Kb1 13; simp only [List.getElem?_toArray, List.getElem?_cons_zero, List.getElem?_cons_succ] at cb1_0 cb1_1 cb1_2 cb1_3 cb1_4 cb1_5 cb1_6 cb1_7 cb1_8 cb1_9 cb1_10 cb1_11 cb1_12 cb1_13; replace Kb1 := Aside0.mk Kb1)
      | ((with_reducible refine gate_dst (N := 2) rfl ?_); refine box_event ?hg (N := 2) ?hd (cs := #[.pointer none, .slice none 0 0, .int .i64 0, .int .i64 0, .int .i64 0, .int .i64 0, .int .i64 0, .int .i64 0, .int .i64 0, .int .i64 0, .int .i64 0, .int .i64 0, .int .i64 0, .bool false]) (t := 30) ?hr ?_; (case hd => rfl); (case hg => rfl); (case hr => first | (go_simp; done) | (go_simp; rfl)); intro b2 hb2 w2 Kb2 hb_; have Gb2 := Aside0.mk (by rw [hb2]; exact HB.out.size : W.heap.size ≤ b2); have Nb1_b2 := Aside0.mk (fun e => by have := blk_lt Kb1.out; omega : b1 ≠ b2); replace HB := Aside0.mk (below_step HB.out hb_); clear hb2; replace cb1_0 := pw_cell_below hb_ cb1_0; replace cb1_1 := pw_cell_below hb_ cb1_1; replace cb1_2 := pw_cell_below hb_ cb1_2; replace cb1_3 := pw_cell_below hb_ cb1_3; replace cb1_4 := pw_cell_below hb_ cb1_4; replace cb1_5 := pw_cell_below hb_ cb1_5; replace cb1_6 := pw_cell_below hb_ cb1_6; replace cb1_7 := pw_cell_below hb_ cb1_7; replace cb1_8 := pw_cell_below hb_ cb1_8; replace cb1_9 := pw_cell_below hb_ cb1_9; replace cb1_10 := pw_cell_below hb_ cb1_10; replace cb1_11 := pw_cell_below hb_ cb1_11; replace cb1_12 := pw_cell_below hb_ cb1_12; replace cb1_13 := pw_cell_below hb_ cb1_13; replace Kb1 := Aside0.mk ((hb_.block _ (blk_lt Kb1.out)).trans Kb1.out); clear hb_; replace Kb2 := Aside0.mk Kb2)
      | ((with_reducible refine gate_dst (N := 3) rfl ?_); refine box_event ?hg (N := 3) ?hd (cs := #[.slice none 0 0, .slice none 0 0, .int .i64 0, .int .i64 0, .int .i64 0, .int .i64 0, .int .i64 0, .int .i64 0, .int .i64 0, .int .i64 0, .int .i64 0, .int .i64 0, .int .i64 0, .bool false]) (t := 31) ?hr ?_; (case hd => rfl); (case hg => rfl); (case hr => first | (go_simp; done) | (go_simp; rfl)); intro b3 hb3 w3 Kb3 hb_; have Gb3 := Aside0.mk (by rw [hb3]; exact HB.out.size : W.heap.size ≤ b3); have Nb1_b3 := Aside0.mk (fun e => by have := blk_lt Kb1.out; omega : b1 ≠ b3); have Nb2_b3 := Aside0.mk (fun e => by have := blk_lt Kb2.out; omega : b2 ≠ b3); replace HB := Aside0.mk (below_step HB.out hb_); clear hb3; replace cb1_0 := pw_cell_below hb_ cb1_0; replace cb1_1 := pw_cell_below hb_ cb1_1; replace cb1_2 := pw_cell_below hb_ cb1_2; replace cb1_3 := pw_cell_below hb_ cb1_3; replace cb1_4 := pw_cell_below hb_ cb1_4; replace cb1_5 := pw_cell_below hb_ cb1_5; replace cb1_6 := pw_cell_below hb_ cb1_6; replace cb1_7 := pw_cell_below hb_ cb1_7; replace cb1_8 := pw_cell_below hb_ cb1_8; replace cb1_9 := pw_cell_below hb_ cb1_9; replace cb1_10 := pw_cell_below hb_ cb1_10; replace cb1_11 := pw_cell_below hb_ cb1_11; replace cb1_12 := pw_cell_below hb_ cb1_12; replace cb1_13 := pw_cell_below hb_ cb1_13; replace Kb1 := Aside0.mk ((hb_.block _ (blk_lt Kb1.out)).trans Kb1.out); replace Kb2 := Aside0.mk ((hb_.block _ (blk_lt Kb2.out)).trans Kb2.out); clear hb_; replace Kb3 := Aside0.mk Kb3)
      | (go_at_call 23; refine (ossuaryref18_Check.calls 5 p.r0 p.r1 p.r2 p.r3 p.r4 p.r5 p.r6 p.r7 p.r8 _ _ HCK.out).mono ?_; rintro e w4 ⟨rfl, hb_⟩; replace HB := Aside0.mk (below_step HB.out hb_); replace cb1_0 := pw_cell_below hb_ cb1_0; replace cb1_1 := pw_cell_below hb_ cb1_1; replace cb1_2 := pw_cell_below hb_ cb1_2; replace cb1_3 := pw_cell_below hb_ cb1_3; replace cb1_4 := pw_cell_below hb_ cb1_4; replace cb1_5 := pw_cell_below hb_ cb1_5; replace cb1_6 := pw_cell_below hb_ cb1_6; replace cb1_7 := pw_cell_below hb_ cb1_7; replace cb1_8 := pw_cell_below hb_ cb1_8; replace cb1_9 := pw_cell_below hb_ cb1_9; replace cb1_10 := pw_cell_below hb_ cb1_10; replace cb1_11 := pw_cell_below hb_ cb1_11; replace cb1_12 := pw_cell_below hb_ cb1_12; replace cb1_13 := pw_cell_below hb_ cb1_13; replace Kb1 := Aside0.mk ((hb_.block _ (blk_lt Kb1.out)).trans Kb1.out); replace Kb2 := Aside0.mk ((hb_.block _ (blk_lt Kb2.out)).trans Kb2.out); replace Kb3 := Aside0.mk ((hb_.block _ (blk_lt Kb3.out)).trans Kb3.out); clear hb_)
      | (refine store_agg rfl 30 (.tmp 2) (.tmp 45) rfl rfl b2 #[.pointer none, .slice none 0 0, .int .i64 0, .int .i64 0, .int .i64 0, .int .i64 0, .int .i64 0, .int .i64 0, .int .i64 0, .int .i64 0, .int .i64 0, .int .i64 0, .int .i64 0, .bool false] 30 _ rfl rfl Kb2.out size30 rfl (by simp [Value.oneCell']) ?_; intro w5 k_ g_; replace HB := Aside0.mk (HB.out.grown g_ HB.out.size (fun r e => by cases e; exact Gb2.out)); replace Kb3 := Aside0.mk (blk_grown Kb3.out g_ (fun e => by cases e; exact Nb2_b3.out rfl)); clear Kb2; have Kb2 := Aside0.mk k_; clear k_ g_ cb1_0 cb1_1 cb1_2 cb1_3 cb1_4 cb1_5 cb1_6 cb1_7 cb1_8 cb1_9 cb1_10 cb1_11 cb1_12 cb1_13)
      | (refine store_agg rfl 31 (.tmp 3) (.tmp 46) rfl rfl b3 #[.slice none 0 0, .slice none 0 0, .int .i64 0, .int .i64 0, .int .i64 0, .int .i64 0, .int .i64 0, .int .i64 0, .int .i64 0, .int .i64 0, .int .i64 0, .int .i64 0, .int .i64 0, .bool false] 31 _ rfl rfl Kb3.out size31 rfl (by simp [Value.oneCell']) ?_; intro w6 k_ g_; replace HB := Aside0.mk (HB.out.grown g_ HB.out.size (fun r e => by cases e; exact Gb3.out)); replace Kb2 := Aside0.mk (blk_grown Kb2.out g_ (fun e => by cases e; exact Nb2_b3.out rfl)); clear Kb3; have Kb3 := Aside0.mk k_; clear k_ g_)
      | fail)
    exact bodyPost_ret (results_cct rfl _ _ b2 b3 _ _ _ _ _ _ _ _ rfl Kb2.out Tryz.underlying30 rfl size30 rfl Kb3.out Tryz.underlying31 rfl size31) rfl ⟨rfl, HB.out⟩
  by_cases h2 : 40 < hs.length
  · have h2' : (40 : Int) < (hs.length : Int) := by omega
    have h1' : ¬ (40 : Int) < (xs.length : Int) := by omega
    clear hno hrv h02
    go_enter Tryz.func6, Tryz.ntmps6
    go_wp2_with (first
      | ((with_reducible refine gate_dst (N := 1) rfl ?_); refine box_event ?hg (N := 1) ?hd (cs := #[.slice Al xs.length cl, .slice Ah hs.length ch, .int .i64 p.r0, .int .i64 p.r1, .int .i64 p.r2, .int .i64 p.r3, .int .i64 p.r4, .int .i64 p.r5, .int .i64 p.r6, .int .i64 p.r7, .int .i64 p.r8, .int .i64 hour, .int .i64 floor, .bool sw]) (t := 27) ?hr ?_; (case hd => rfl); (case hg => rfl); (case hr => first | (go_simp; done) | (go_simp; rfl)); intro b1 hb1 w1 Kb1 hb_; have Gb1 := Aside0.mk (by rw [hb1]; exact HB.out.size : W.heap.size ≤ b1); replace HB := Aside0.mk (below_step HB.out hb_); clear hb1; clear hb_; have cb1_0 := blk_cell Kb1 0; have cb1_1 := blk_cell Kb1 1; have cb1_2 := blk_cell Kb1 2; have cb1_3 := blk_cell Kb1 3; have cb1_4 := blk_cell Kb1 4; have cb1_5 := blk_cell Kb1 5; have cb1_6 := blk_cell Kb1 6; have cb1_7 := blk_cell Kb1 7; have cb1_8 := blk_cell Kb1 8; have cb1_9 := blk_cell Kb1 9; have cb1_10 := blk_cell Kb1 10; have cb1_11 := blk_cell Kb1 11; have cb1_12 := blk_cell Kb1 12; have cb1_13 := blk_cell Kb1 13; simp only [List.getElem?_toArray, List.getElem?_cons_zero, List.getElem?_cons_succ] at cb1_0 cb1_1 cb1_2 cb1_3 cb1_4 cb1_5 cb1_6 cb1_7 cb1_8 cb1_9 cb1_10 cb1_11 cb1_12 cb1_13; replace Kb1 := Aside0.mk Kb1)
      | ((with_reducible refine gate_dst (N := 2) rfl ?_); refine box_event ?hg (N := 2) ?hd (cs := #[.pointer none, .slice none 0 0, .int .i64 0, .int .i64 0, .int .i64 0, .int .i64 0, .int .i64 0, .int .i64 0, .int .i64 0, .int .i64 0, .int .i64 0, .int .i64 0, .int .i64 0, .bool false]) (t := 30) ?hr ?_; (case hd => rfl); (case hg => rfl); (case hr => first | (go_simp; done) | (go_simp; rfl)); intro b2 hb2 w2 Kb2 hb_; have Gb2 := Aside0.mk (by rw [hb2]; exact HB.out.size : W.heap.size ≤ b2); have Nb1_b2 := Aside0.mk (fun e => by have := blk_lt Kb1.out; omega : b1 ≠ b2); replace HB := Aside0.mk (below_step HB.out hb_); clear hb2; replace cb1_0 := pw_cell_below hb_ cb1_0; replace cb1_1 := pw_cell_below hb_ cb1_1; replace cb1_2 := pw_cell_below hb_ cb1_2; replace cb1_3 := pw_cell_below hb_ cb1_3; replace cb1_4 := pw_cell_below hb_ cb1_4; replace cb1_5 := pw_cell_below hb_ cb1_5; replace cb1_6 := pw_cell_below hb_ cb1_6; replace cb1_7 := pw_cell_below hb_ cb1_7; replace cb1_8 := pw_cell_below hb_ cb1_8; replace cb1_9 := pw_cell_below hb_ cb1_9; replace cb1_10 := pw_cell_below hb_ cb1_10; replace cb1_11 := pw_cell_below hb_ cb1_11; replace cb1_12 := pw_cell_below hb_ cb1_12; replace cb1_13 := pw_cell_below hb_ cb1_13; replace Kb1 := Aside0.mk ((hb_.block _ (blk_lt Kb1.out)).trans Kb1.out); clear hb_; replace Kb2 := Aside0.mk Kb2)
      | ((with_reducible refine gate_dst (N := 3) rfl ?_); refine box_event ?hg (N := 3) ?hd (cs := #[.slice none 0 0, .slice none 0 0, .int .i64 0, .int .i64 0, .int .i64 0, .int .i64 0, .int .i64 0, .int .i64 0, .int .i64 0, .int .i64 0, .int .i64 0, .int .i64 0, .int .i64 0, .bool false]) (t := 31) ?hr ?_; (case hd => rfl); (case hg => rfl); (case hr => first | (go_simp; done) | (go_simp; rfl)); intro b3 hb3 w3 Kb3 hb_; have Gb3 := Aside0.mk (by rw [hb3]; exact HB.out.size : W.heap.size ≤ b3); have Nb1_b3 := Aside0.mk (fun e => by have := blk_lt Kb1.out; omega : b1 ≠ b3); have Nb2_b3 := Aside0.mk (fun e => by have := blk_lt Kb2.out; omega : b2 ≠ b3); replace HB := Aside0.mk (below_step HB.out hb_); clear hb3; replace cb1_0 := pw_cell_below hb_ cb1_0; replace cb1_1 := pw_cell_below hb_ cb1_1; replace cb1_2 := pw_cell_below hb_ cb1_2; replace cb1_3 := pw_cell_below hb_ cb1_3; replace cb1_4 := pw_cell_below hb_ cb1_4; replace cb1_5 := pw_cell_below hb_ cb1_5; replace cb1_6 := pw_cell_below hb_ cb1_6; replace cb1_7 := pw_cell_below hb_ cb1_7; replace cb1_8 := pw_cell_below hb_ cb1_8; replace cb1_9 := pw_cell_below hb_ cb1_9; replace cb1_10 := pw_cell_below hb_ cb1_10; replace cb1_11 := pw_cell_below hb_ cb1_11; replace cb1_12 := pw_cell_below hb_ cb1_12; replace cb1_13 := pw_cell_below hb_ cb1_13; replace Kb1 := Aside0.mk ((hb_.block _ (blk_lt Kb1.out)).trans Kb1.out); replace Kb2 := Aside0.mk ((hb_.block _ (blk_lt Kb2.out)).trans Kb2.out); clear hb_; replace Kb3 := Aside0.mk Kb3)
      | (go_at_call 23; refine (ossuaryref18_Check.calls 5 p.r0 p.r1 p.r2 p.r3 p.r4 p.r5 p.r6 p.r7 p.r8 _ _ HCK.out).mono ?_; rintro e w4 ⟨rfl, hb_⟩; replace HB := Aside0.mk (below_step HB.out hb_); replace cb1_0 := pw_cell_below hb_ cb1_0; replace cb1_1 := pw_cell_below hb_ cb1_1; replace cb1_2 := pw_cell_below hb_ cb1_2; replace cb1_3 := pw_cell_below hb_ cb1_3; replace cb1_4 := pw_cell_below hb_ cb1_4; replace cb1_5 := pw_cell_below hb_ cb1_5; replace cb1_6 := pw_cell_below hb_ cb1_6; replace cb1_7 := pw_cell_below hb_ cb1_7; replace cb1_8 := pw_cell_below hb_ cb1_8; replace cb1_9 := pw_cell_below hb_ cb1_9; replace cb1_10 := pw_cell_below hb_ cb1_10; replace cb1_11 := pw_cell_below hb_ cb1_11; replace cb1_12 := pw_cell_below hb_ cb1_12; replace cb1_13 := pw_cell_below hb_ cb1_13; replace Kb1 := Aside0.mk ((hb_.block _ (blk_lt Kb1.out)).trans Kb1.out); replace Kb2 := Aside0.mk ((hb_.block _ (blk_lt Kb2.out)).trans Kb2.out); replace Kb3 := Aside0.mk ((hb_.block _ (blk_lt Kb3.out)).trans Kb3.out); clear hb_)
      | (refine store_agg rfl 30 (.tmp 2) (.tmp 45) rfl rfl b2 #[.pointer none, .slice none 0 0, .int .i64 0, .int .i64 0, .int .i64 0, .int .i64 0, .int .i64 0, .int .i64 0, .int .i64 0, .int .i64 0, .int .i64 0, .int .i64 0, .int .i64 0, .bool false] 30 _ rfl rfl Kb2.out size30 rfl (by simp [Value.oneCell']) ?_; intro w5 k_ g_; replace HB := Aside0.mk (HB.out.grown g_ HB.out.size (fun r e => by cases e; exact Gb2.out)); replace Kb3 := Aside0.mk (blk_grown Kb3.out g_ (fun e => by cases e; exact Nb2_b3.out rfl)); clear Kb2; have Kb2 := Aside0.mk k_; clear k_ g_ cb1_0 cb1_1 cb1_2 cb1_3 cb1_4 cb1_5 cb1_6 cb1_7 cb1_8 cb1_9 cb1_10 cb1_11 cb1_12 cb1_13)
      | (refine store_agg rfl 31 (.tmp 3) (.tmp 46) rfl rfl b3 #[.slice none 0 0, .slice none 0 0, .int .i64 0, .int .i64 0, .int .i64 0, .int .i64 0, .int .i64 0, .int .i64 0, .int .i64 0, .int .i64 0, .int .i64 0, .int .i64 0, .int .i64 0, .bool false] 31 _ rfl rfl Kb3.out size31 rfl (by simp [Value.oneCell']) ?_; intro w6 k_ g_; replace HB := Aside0.mk (HB.out.grown g_ HB.out.size (fun r e => by cases e; exact Gb3.out)); replace Kb2 := Aside0.mk (blk_grown Kb2.out g_ (fun e => by cases e; exact Nb2_b3.out rfl)); clear Kb3; have Kb3 := Aside0.mk k_; clear k_ g_)
      | fail)
    exact bodyPost_ret (results_cct rfl _ _ b2 b3 _ _ _ _ _ _ _ _ rfl Kb2.out Tryz.underlying30 rfl size30 rfl Kb3.out Tryz.underlying31 rfl size31) rfl ⟨rfl, HB.out⟩
  by_cases h3 : rv = 2
  · subst h3
    have h2' : ¬ (40 : Int) < (hs.length : Int) := by omega
    have h1' : ¬ (40 : Int) < (xs.length : Int) := by omega
    clear hno hrv h02
    go_enter Tryz.func6, Tryz.ntmps6
    go_wp2_with (first
      | ((with_reducible refine gate_dst (N := 1) rfl ?_); refine box_event ?hg (N := 1) ?hd (cs := #[.slice Al xs.length cl, .slice Ah hs.length ch, .int .i64 p.r0, .int .i64 p.r1, .int .i64 p.r2, .int .i64 p.r3, .int .i64 p.r4, .int .i64 p.r5, .int .i64 p.r6, .int .i64 p.r7, .int .i64 p.r8, .int .i64 hour, .int .i64 floor, .bool sw]) (t := 27) ?hr ?_; (case hd => rfl); (case hg => rfl); (case hr => first | (go_simp; done) | (go_simp; rfl)); intro b1 hb1 w1 Kb1 hb_; have Gb1 := Aside0.mk (by rw [hb1]; exact HB.out.size : W.heap.size ≤ b1); replace HB := Aside0.mk (below_step HB.out hb_); clear hb1; clear hb_; have cb1_0 := blk_cell Kb1 0; have cb1_1 := blk_cell Kb1 1; have cb1_2 := blk_cell Kb1 2; have cb1_3 := blk_cell Kb1 3; have cb1_4 := blk_cell Kb1 4; have cb1_5 := blk_cell Kb1 5; have cb1_6 := blk_cell Kb1 6; have cb1_7 := blk_cell Kb1 7; have cb1_8 := blk_cell Kb1 8; have cb1_9 := blk_cell Kb1 9; have cb1_10 := blk_cell Kb1 10; have cb1_11 := blk_cell Kb1 11; have cb1_12 := blk_cell Kb1 12; have cb1_13 := blk_cell Kb1 13; simp only [List.getElem?_toArray, List.getElem?_cons_zero, List.getElem?_cons_succ] at cb1_0 cb1_1 cb1_2 cb1_3 cb1_4 cb1_5 cb1_6 cb1_7 cb1_8 cb1_9 cb1_10 cb1_11 cb1_12 cb1_13; replace Kb1 := Aside0.mk Kb1)
      | ((with_reducible refine gate_dst (N := 2) rfl ?_); refine box_event ?hg (N := 2) ?hd (cs := #[.pointer none, .slice none 0 0, .int .i64 0, .int .i64 0, .int .i64 0, .int .i64 0, .int .i64 0, .int .i64 0, .int .i64 0, .int .i64 0, .int .i64 0, .int .i64 0, .int .i64 0, .bool false]) (t := 30) ?hr ?_; (case hd => rfl); (case hg => rfl); (case hr => first | (go_simp; done) | (go_simp; rfl)); intro b2 hb2 w2 Kb2 hb_; have Gb2 := Aside0.mk (by rw [hb2]; exact HB.out.size : W.heap.size ≤ b2); have Nb1_b2 := Aside0.mk (fun e => by have := blk_lt Kb1.out; omega : b1 ≠ b2); replace HB := Aside0.mk (below_step HB.out hb_); clear hb2; replace cb1_0 := pw_cell_below hb_ cb1_0; replace cb1_1 := pw_cell_below hb_ cb1_1; replace cb1_2 := pw_cell_below hb_ cb1_2; replace cb1_3 := pw_cell_below hb_ cb1_3; replace cb1_4 := pw_cell_below hb_ cb1_4; replace cb1_5 := pw_cell_below hb_ cb1_5; replace cb1_6 := pw_cell_below hb_ cb1_6; replace cb1_7 := pw_cell_below hb_ cb1_7; replace cb1_8 := pw_cell_below hb_ cb1_8; replace cb1_9 := pw_cell_below hb_ cb1_9; replace cb1_10 := pw_cell_below hb_ cb1_10; replace cb1_11 := pw_cell_below hb_ cb1_11; replace cb1_12 := pw_cell_below hb_ cb1_12; replace cb1_13 := pw_cell_below hb_ cb1_13; replace Kb1 := Aside0.mk ((hb_.block _ (blk_lt Kb1.out)).trans Kb1.out); clear hb_; replace Kb2 := Aside0.mk Kb2)
      | ((with_reducible refine gate_dst (N := 3) rfl ?_); refine box_event ?hg (N := 3) ?hd (cs := #[.slice none 0 0, .slice none 0 0, .int .i64 0, .int .i64 0, .int .i64 0, .int .i64 0, .int .i64 0, .int .i64 0, .int .i64 0, .int .i64 0, .int .i64 0, .int .i64 0, .int .i64 0, .bool false]) (t := 31) ?hr ?_; (case hd => rfl); (case hg => rfl); (case hr => first | (go_simp; done) | (go_simp; rfl)); intro b3 hb3 w3 Kb3 hb_; have Gb3 := Aside0.mk (by rw [hb3]; exact HB.out.size : W.heap.size ≤ b3); have Nb1_b3 := Aside0.mk (fun e => by have := blk_lt Kb1.out; omega : b1 ≠ b3); have Nb2_b3 := Aside0.mk (fun e => by have := blk_lt Kb2.out; omega : b2 ≠ b3); replace HB := Aside0.mk (below_step HB.out hb_); clear hb3; replace cb1_0 := pw_cell_below hb_ cb1_0; replace cb1_1 := pw_cell_below hb_ cb1_1; replace cb1_2 := pw_cell_below hb_ cb1_2; replace cb1_3 := pw_cell_below hb_ cb1_3; replace cb1_4 := pw_cell_below hb_ cb1_4; replace cb1_5 := pw_cell_below hb_ cb1_5; replace cb1_6 := pw_cell_below hb_ cb1_6; replace cb1_7 := pw_cell_below hb_ cb1_7; replace cb1_8 := pw_cell_below hb_ cb1_8; replace cb1_9 := pw_cell_below hb_ cb1_9; replace cb1_10 := pw_cell_below hb_ cb1_10; replace cb1_11 := pw_cell_below hb_ cb1_11; replace cb1_12 := pw_cell_below hb_ cb1_12; replace cb1_13 := pw_cell_below hb_ cb1_13; replace Kb1 := Aside0.mk ((hb_.block _ (blk_lt Kb1.out)).trans Kb1.out); replace Kb2 := Aside0.mk ((hb_.block _ (blk_lt Kb2.out)).trans Kb2.out); clear hb_; replace Kb3 := Aside0.mk Kb3)
      | (go_at_call 23; refine (ossuaryref18_Check.calls 5 p.r0 p.r1 p.r2 p.r3 p.r4 p.r5 p.r6 p.r7 p.r8 _ _ HCK.out).mono ?_; rintro e w4 ⟨rfl, hb_⟩; replace HB := Aside0.mk (below_step HB.out hb_); replace cb1_0 := pw_cell_below hb_ cb1_0; replace cb1_1 := pw_cell_below hb_ cb1_1; replace cb1_2 := pw_cell_below hb_ cb1_2; replace cb1_3 := pw_cell_below hb_ cb1_3; replace cb1_4 := pw_cell_below hb_ cb1_4; replace cb1_5 := pw_cell_below hb_ cb1_5; replace cb1_6 := pw_cell_below hb_ cb1_6; replace cb1_7 := pw_cell_below hb_ cb1_7; replace cb1_8 := pw_cell_below hb_ cb1_8; replace cb1_9 := pw_cell_below hb_ cb1_9; replace cb1_10 := pw_cell_below hb_ cb1_10; replace cb1_11 := pw_cell_below hb_ cb1_11; replace cb1_12 := pw_cell_below hb_ cb1_12; replace cb1_13 := pw_cell_below hb_ cb1_13; replace Kb1 := Aside0.mk ((hb_.block _ (blk_lt Kb1.out)).trans Kb1.out); replace Kb2 := Aside0.mk ((hb_.block _ (blk_lt Kb2.out)).trans Kb2.out); replace Kb3 := Aside0.mk ((hb_.block _ (blk_lt Kb3.out)).trans Kb3.out); clear hb_)
      | (refine store_agg rfl 30 (.tmp 2) (.tmp 45) rfl rfl b2 #[.pointer none, .slice none 0 0, .int .i64 0, .int .i64 0, .int .i64 0, .int .i64 0, .int .i64 0, .int .i64 0, .int .i64 0, .int .i64 0, .int .i64 0, .int .i64 0, .int .i64 0, .bool false] 30 _ rfl rfl Kb2.out size30 rfl (by simp [Value.oneCell']) ?_; intro w5 k_ g_; replace HB := Aside0.mk (HB.out.grown g_ HB.out.size (fun r e => by cases e; exact Gb2.out)); replace Kb3 := Aside0.mk (blk_grown Kb3.out g_ (fun e => by cases e; exact Nb2_b3.out rfl)); clear Kb2; have Kb2 := Aside0.mk k_; clear k_ g_ cb1_0 cb1_1 cb1_2 cb1_3 cb1_4 cb1_5 cb1_6 cb1_7 cb1_8 cb1_9 cb1_10 cb1_11 cb1_12 cb1_13)
      | (refine store_agg rfl 31 (.tmp 3) (.tmp 46) rfl rfl b3 #[.slice none 0 0, .slice none 0 0, .int .i64 0, .int .i64 0, .int .i64 0, .int .i64 0, .int .i64 0, .int .i64 0, .int .i64 0, .int .i64 0, .int .i64 0, .int .i64 0, .int .i64 0, .bool false] 31 _ rfl rfl Kb3.out size31 rfl (by simp [Value.oneCell']) ?_; intro w6 k_ g_; replace HB := Aside0.mk (HB.out.grown g_ HB.out.size (fun r e => by cases e; exact Gb3.out)); replace Kb2 := Aside0.mk (blk_grown Kb2.out g_ (fun e => by cases e; exact Nb2_b3.out rfl)); clear Kb3; have Kb3 := Aside0.mk k_; clear k_ g_)
      | fail)
    exact bodyPost_ret (results_cct rfl _ _ b2 b3 _ _ _ _ _ _ _ _ rfl Kb2.out Tryz.underlying30 rfl size30 rfl Kb3.out Tryz.underlying31 rfl size31) rfl ⟨rfl, HB.out⟩
  obtain rfl : rv = 0 := by omega
  by_cases h4 : hour < 0
  · have h2' : ¬ (40 : Int) < (hs.length : Int) := by omega
    have h1' : ¬ (40 : Int) < (xs.length : Int) := by omega
    clear hno hrv h02
    go_enter Tryz.func6, Tryz.ntmps6
    go_wp2_with (first
      | ((with_reducible refine gate_dst (N := 1) rfl ?_); refine box_event ?hg (N := 1) ?hd (cs := #[.slice Al xs.length cl, .slice Ah hs.length ch, .int .i64 p.r0, .int .i64 p.r1, .int .i64 p.r2, .int .i64 p.r3, .int .i64 p.r4, .int .i64 p.r5, .int .i64 p.r6, .int .i64 p.r7, .int .i64 p.r8, .int .i64 hour, .int .i64 floor, .bool sw]) (t := 27) ?hr ?_; (case hd => rfl); (case hg => rfl); (case hr => first | (go_simp; done) | (go_simp; rfl)); intro b1 hb1 w1 Kb1 hb_; have Gb1 := Aside0.mk (by rw [hb1]; exact HB.out.size : W.heap.size ≤ b1); replace HB := Aside0.mk (below_step HB.out hb_); clear hb1; clear hb_; have cb1_0 := blk_cell Kb1 0; have cb1_1 := blk_cell Kb1 1; have cb1_2 := blk_cell Kb1 2; have cb1_3 := blk_cell Kb1 3; have cb1_4 := blk_cell Kb1 4; have cb1_5 := blk_cell Kb1 5; have cb1_6 := blk_cell Kb1 6; have cb1_7 := blk_cell Kb1 7; have cb1_8 := blk_cell Kb1 8; have cb1_9 := blk_cell Kb1 9; have cb1_10 := blk_cell Kb1 10; have cb1_11 := blk_cell Kb1 11; have cb1_12 := blk_cell Kb1 12; have cb1_13 := blk_cell Kb1 13; simp only [List.getElem?_toArray, List.getElem?_cons_zero, List.getElem?_cons_succ] at cb1_0 cb1_1 cb1_2 cb1_3 cb1_4 cb1_5 cb1_6 cb1_7 cb1_8 cb1_9 cb1_10 cb1_11 cb1_12 cb1_13; replace Kb1 := Aside0.mk Kb1)
      | ((with_reducible refine gate_dst (N := 2) rfl ?_); refine box_event ?hg (N := 2) ?hd (cs := #[.pointer none, .slice none 0 0, .int .i64 0, .int .i64 0, .int .i64 0, .int .i64 0, .int .i64 0, .int .i64 0, .int .i64 0, .int .i64 0, .int .i64 0, .int .i64 0, .int .i64 0, .bool false]) (t := 30) ?hr ?_; (case hd => rfl); (case hg => rfl); (case hr => first | (go_simp; done) | (go_simp; rfl)); intro b2 hb2 w2 Kb2 hb_; have Gb2 := Aside0.mk (by rw [hb2]; exact HB.out.size : W.heap.size ≤ b2); have Nb1_b2 := Aside0.mk (fun e => by have := blk_lt Kb1.out; omega : b1 ≠ b2); replace HB := Aside0.mk (below_step HB.out hb_); clear hb2; replace cb1_0 := pw_cell_below hb_ cb1_0; replace cb1_1 := pw_cell_below hb_ cb1_1; replace cb1_2 := pw_cell_below hb_ cb1_2; replace cb1_3 := pw_cell_below hb_ cb1_3; replace cb1_4 := pw_cell_below hb_ cb1_4; replace cb1_5 := pw_cell_below hb_ cb1_5; replace cb1_6 := pw_cell_below hb_ cb1_6; replace cb1_7 := pw_cell_below hb_ cb1_7; replace cb1_8 := pw_cell_below hb_ cb1_8; replace cb1_9 := pw_cell_below hb_ cb1_9; replace cb1_10 := pw_cell_below hb_ cb1_10; replace cb1_11 := pw_cell_below hb_ cb1_11; replace cb1_12 := pw_cell_below hb_ cb1_12; replace cb1_13 := pw_cell_below hb_ cb1_13; replace Kb1 := Aside0.mk ((hb_.block _ (blk_lt Kb1.out)).trans Kb1.out); clear hb_; replace Kb2 := Aside0.mk Kb2)
      | ((with_reducible refine gate_dst (N := 3) rfl ?_); refine box_event ?hg (N := 3) ?hd (cs := #[.slice none 0 0, .slice none 0 0, .int .i64 0, .int .i64 0, .int .i64 0, .int .i64 0, .int .i64 0, .int .i64 0, .int .i64 0, .int .i64 0, .int .i64 0, .int .i64 0, .int .i64 0, .bool false]) (t := 31) ?hr ?_; (case hd => rfl); (case hg => rfl); (case hr => first | (go_simp; done) | (go_simp; rfl)); intro b3 hb3 w3 Kb3 hb_; have Gb3 := Aside0.mk (by rw [hb3]; exact HB.out.size : W.heap.size ≤ b3); have Nb1_b3 := Aside0.mk (fun e => by have := blk_lt Kb1.out; omega : b1 ≠ b3); have Nb2_b3 := Aside0.mk (fun e => by have := blk_lt Kb2.out; omega : b2 ≠ b3); replace HB := Aside0.mk (below_step HB.out hb_); clear hb3; replace cb1_0 := pw_cell_below hb_ cb1_0; replace cb1_1 := pw_cell_below hb_ cb1_1; replace cb1_2 := pw_cell_below hb_ cb1_2; replace cb1_3 := pw_cell_below hb_ cb1_3; replace cb1_4 := pw_cell_below hb_ cb1_4; replace cb1_5 := pw_cell_below hb_ cb1_5; replace cb1_6 := pw_cell_below hb_ cb1_6; replace cb1_7 := pw_cell_below hb_ cb1_7; replace cb1_8 := pw_cell_below hb_ cb1_8; replace cb1_9 := pw_cell_below hb_ cb1_9; replace cb1_10 := pw_cell_below hb_ cb1_10; replace cb1_11 := pw_cell_below hb_ cb1_11; replace cb1_12 := pw_cell_below hb_ cb1_12; replace cb1_13 := pw_cell_below hb_ cb1_13; replace Kb1 := Aside0.mk ((hb_.block _ (blk_lt Kb1.out)).trans Kb1.out); replace Kb2 := Aside0.mk ((hb_.block _ (blk_lt Kb2.out)).trans Kb2.out); clear hb_; replace Kb3 := Aside0.mk Kb3)
      | (go_at_call 23; refine (ossuaryref18_Check.calls 5 p.r0 p.r1 p.r2 p.r3 p.r4 p.r5 p.r6 p.r7 p.r8 _ _ HCK.out).mono ?_; rintro e w4 ⟨rfl, hb_⟩; replace HB := Aside0.mk (below_step HB.out hb_); replace cb1_0 := pw_cell_below hb_ cb1_0; replace cb1_1 := pw_cell_below hb_ cb1_1; replace cb1_2 := pw_cell_below hb_ cb1_2; replace cb1_3 := pw_cell_below hb_ cb1_3; replace cb1_4 := pw_cell_below hb_ cb1_4; replace cb1_5 := pw_cell_below hb_ cb1_5; replace cb1_6 := pw_cell_below hb_ cb1_6; replace cb1_7 := pw_cell_below hb_ cb1_7; replace cb1_8 := pw_cell_below hb_ cb1_8; replace cb1_9 := pw_cell_below hb_ cb1_9; replace cb1_10 := pw_cell_below hb_ cb1_10; replace cb1_11 := pw_cell_below hb_ cb1_11; replace cb1_12 := pw_cell_below hb_ cb1_12; replace cb1_13 := pw_cell_below hb_ cb1_13; replace Kb1 := Aside0.mk ((hb_.block _ (blk_lt Kb1.out)).trans Kb1.out); replace Kb2 := Aside0.mk ((hb_.block _ (blk_lt Kb2.out)).trans Kb2.out); replace Kb3 := Aside0.mk ((hb_.block _ (blk_lt Kb3.out)).trans Kb3.out); clear hb_)
      | (refine store_agg rfl 30 (.tmp 2) (.tmp 45) rfl rfl b2 #[.pointer none, .slice none 0 0, .int .i64 0, .int .i64 0, .int .i64 0, .int .i64 0, .int .i64 0, .int .i64 0, .int .i64 0, .int .i64 0, .int .i64 0, .int .i64 0, .int .i64 0, .bool false] 30 _ rfl rfl Kb2.out size30 rfl (by simp [Value.oneCell']) ?_; intro w5 k_ g_; replace HB := Aside0.mk (HB.out.grown g_ HB.out.size (fun r e => by cases e; exact Gb2.out)); replace Kb3 := Aside0.mk (blk_grown Kb3.out g_ (fun e => by cases e; exact Nb2_b3.out rfl)); clear Kb2; have Kb2 := Aside0.mk k_; clear k_ g_ cb1_0 cb1_1 cb1_2 cb1_3 cb1_4 cb1_5 cb1_6 cb1_7 cb1_8 cb1_9 cb1_10 cb1_11 cb1_12 cb1_13)
      | (refine store_agg rfl 31 (.tmp 3) (.tmp 46) rfl rfl b3 #[.slice none 0 0, .slice none 0 0, .int .i64 0, .int .i64 0, .int .i64 0, .int .i64 0, .int .i64 0, .int .i64 0, .int .i64 0, .int .i64 0, .int .i64 0, .int .i64 0, .int .i64 0, .bool false] 31 _ rfl rfl Kb3.out size31 rfl (by simp [Value.oneCell']) ?_; intro w6 k_ g_; replace HB := Aside0.mk (HB.out.grown g_ HB.out.size (fun r e => by cases e; exact Gb3.out)); replace Kb2 := Aside0.mk (blk_grown Kb2.out g_ (fun e => by cases e; exact Nb2_b3.out rfl)); clear Kb3; have Kb3 := Aside0.mk k_; clear k_ g_)
      | fail)
    exact bodyPost_ret (results_cct rfl _ _ b2 b3 _ _ _ _ _ _ _ _ rfl Kb2.out Tryz.underlying30 rfl size30 rfl Kb3.out Tryz.underlying31 rfl size31) rfl ⟨rfl, HB.out⟩
  by_cases h5 : 1099511627776 < hour
  · have h2' : ¬ (40 : Int) < (hs.length : Int) := by omega
    have h1' : ¬ (40 : Int) < (xs.length : Int) := by omega
    clear hno hrv h02
    go_enter Tryz.func6, Tryz.ntmps6
    go_wp2_with (first
      | ((with_reducible refine gate_dst (N := 1) rfl ?_); refine box_event ?hg (N := 1) ?hd (cs := #[.slice Al xs.length cl, .slice Ah hs.length ch, .int .i64 p.r0, .int .i64 p.r1, .int .i64 p.r2, .int .i64 p.r3, .int .i64 p.r4, .int .i64 p.r5, .int .i64 p.r6, .int .i64 p.r7, .int .i64 p.r8, .int .i64 hour, .int .i64 floor, .bool sw]) (t := 27) ?hr ?_; (case hd => rfl); (case hg => rfl); (case hr => first | (go_simp; done) | (go_simp; rfl)); intro b1 hb1 w1 Kb1 hb_; have Gb1 := Aside0.mk (by rw [hb1]; exact HB.out.size : W.heap.size ≤ b1); replace HB := Aside0.mk (below_step HB.out hb_); clear hb1; clear hb_; have cb1_0 := blk_cell Kb1 0; have cb1_1 := blk_cell Kb1 1; have cb1_2 := blk_cell Kb1 2; have cb1_3 := blk_cell Kb1 3; have cb1_4 := blk_cell Kb1 4; have cb1_5 := blk_cell Kb1 5; have cb1_6 := blk_cell Kb1 6; have cb1_7 := blk_cell Kb1 7; have cb1_8 := blk_cell Kb1 8; have cb1_9 := blk_cell Kb1 9; have cb1_10 := blk_cell Kb1 10; have cb1_11 := blk_cell Kb1 11; have cb1_12 := blk_cell Kb1 12; have cb1_13 := blk_cell Kb1 13; simp only [List.getElem?_toArray, List.getElem?_cons_zero, List.getElem?_cons_succ] at cb1_0 cb1_1 cb1_2 cb1_3 cb1_4 cb1_5 cb1_6 cb1_7 cb1_8 cb1_9 cb1_10 cb1_11 cb1_12 cb1_13; replace Kb1 := Aside0.mk Kb1)
      | ((with_reducible refine gate_dst (N := 2) rfl ?_); refine box_event ?hg (N := 2) ?hd (cs := #[.pointer none, .slice none 0 0, .int .i64 0, .int .i64 0, .int .i64 0, .int .i64 0, .int .i64 0, .int .i64 0, .int .i64 0, .int .i64 0, .int .i64 0, .int .i64 0, .int .i64 0, .bool false]) (t := 30) ?hr ?_; (case hd => rfl); (case hg => rfl); (case hr => first | (go_simp; done) | (go_simp; rfl)); intro b2 hb2 w2 Kb2 hb_; have Gb2 := Aside0.mk (by rw [hb2]; exact HB.out.size : W.heap.size ≤ b2); have Nb1_b2 := Aside0.mk (fun e => by have := blk_lt Kb1.out; omega : b1 ≠ b2); replace HB := Aside0.mk (below_step HB.out hb_); clear hb2; replace cb1_0 := pw_cell_below hb_ cb1_0; replace cb1_1 := pw_cell_below hb_ cb1_1; replace cb1_2 := pw_cell_below hb_ cb1_2; replace cb1_3 := pw_cell_below hb_ cb1_3; replace cb1_4 := pw_cell_below hb_ cb1_4; replace cb1_5 := pw_cell_below hb_ cb1_5; replace cb1_6 := pw_cell_below hb_ cb1_6; replace cb1_7 := pw_cell_below hb_ cb1_7; replace cb1_8 := pw_cell_below hb_ cb1_8; replace cb1_9 := pw_cell_below hb_ cb1_9; replace cb1_10 := pw_cell_below hb_ cb1_10; replace cb1_11 := pw_cell_below hb_ cb1_11; replace cb1_12 := pw_cell_below hb_ cb1_12; replace cb1_13 := pw_cell_below hb_ cb1_13; replace Kb1 := Aside0.mk ((hb_.block _ (blk_lt Kb1.out)).trans Kb1.out); clear hb_; replace Kb2 := Aside0.mk Kb2)
      | ((with_reducible refine gate_dst (N := 3) rfl ?_); refine box_event ?hg (N := 3) ?hd (cs := #[.slice none 0 0, .slice none 0 0, .int .i64 0, .int .i64 0, .int .i64 0, .int .i64 0, .int .i64 0, .int .i64 0, .int .i64 0, .int .i64 0, .int .i64 0, .int .i64 0, .int .i64 0, .bool false]) (t := 31) ?hr ?_; (case hd => rfl); (case hg => rfl); (case hr => first | (go_simp; done) | (go_simp; rfl)); intro b3 hb3 w3 Kb3 hb_; have Gb3 := Aside0.mk (by rw [hb3]; exact HB.out.size : W.heap.size ≤ b3); have Nb1_b3 := Aside0.mk (fun e => by have := blk_lt Kb1.out; omega : b1 ≠ b3); have Nb2_b3 := Aside0.mk (fun e => by have := blk_lt Kb2.out; omega : b2 ≠ b3); replace HB := Aside0.mk (below_step HB.out hb_); clear hb3; replace cb1_0 := pw_cell_below hb_ cb1_0; replace cb1_1 := pw_cell_below hb_ cb1_1; replace cb1_2 := pw_cell_below hb_ cb1_2; replace cb1_3 := pw_cell_below hb_ cb1_3; replace cb1_4 := pw_cell_below hb_ cb1_4; replace cb1_5 := pw_cell_below hb_ cb1_5; replace cb1_6 := pw_cell_below hb_ cb1_6; replace cb1_7 := pw_cell_below hb_ cb1_7; replace cb1_8 := pw_cell_below hb_ cb1_8; replace cb1_9 := pw_cell_below hb_ cb1_9; replace cb1_10 := pw_cell_below hb_ cb1_10; replace cb1_11 := pw_cell_below hb_ cb1_11; replace cb1_12 := pw_cell_below hb_ cb1_12; replace cb1_13 := pw_cell_below hb_ cb1_13; replace Kb1 := Aside0.mk ((hb_.block _ (blk_lt Kb1.out)).trans Kb1.out); replace Kb2 := Aside0.mk ((hb_.block _ (blk_lt Kb2.out)).trans Kb2.out); clear hb_; replace Kb3 := Aside0.mk Kb3)
      | (go_at_call 23; refine (ossuaryref18_Check.calls 5 p.r0 p.r1 p.r2 p.r3 p.r4 p.r5 p.r6 p.r7 p.r8 _ _ HCK.out).mono ?_; rintro e w4 ⟨rfl, hb_⟩; replace HB := Aside0.mk (below_step HB.out hb_); replace cb1_0 := pw_cell_below hb_ cb1_0; replace cb1_1 := pw_cell_below hb_ cb1_1; replace cb1_2 := pw_cell_below hb_ cb1_2; replace cb1_3 := pw_cell_below hb_ cb1_3; replace cb1_4 := pw_cell_below hb_ cb1_4; replace cb1_5 := pw_cell_below hb_ cb1_5; replace cb1_6 := pw_cell_below hb_ cb1_6; replace cb1_7 := pw_cell_below hb_ cb1_7; replace cb1_8 := pw_cell_below hb_ cb1_8; replace cb1_9 := pw_cell_below hb_ cb1_9; replace cb1_10 := pw_cell_below hb_ cb1_10; replace cb1_11 := pw_cell_below hb_ cb1_11; replace cb1_12 := pw_cell_below hb_ cb1_12; replace cb1_13 := pw_cell_below hb_ cb1_13; replace Kb1 := Aside0.mk ((hb_.block _ (blk_lt Kb1.out)).trans Kb1.out); replace Kb2 := Aside0.mk ((hb_.block _ (blk_lt Kb2.out)).trans Kb2.out); replace Kb3 := Aside0.mk ((hb_.block _ (blk_lt Kb3.out)).trans Kb3.out); clear hb_)
      | (refine store_agg rfl 30 (.tmp 2) (.tmp 45) rfl rfl b2 #[.pointer none, .slice none 0 0, .int .i64 0, .int .i64 0, .int .i64 0, .int .i64 0, .int .i64 0, .int .i64 0, .int .i64 0, .int .i64 0, .int .i64 0, .int .i64 0, .int .i64 0, .bool false] 30 _ rfl rfl Kb2.out size30 rfl (by simp [Value.oneCell']) ?_; intro w5 k_ g_; replace HB := Aside0.mk (HB.out.grown g_ HB.out.size (fun r e => by cases e; exact Gb2.out)); replace Kb3 := Aside0.mk (blk_grown Kb3.out g_ (fun e => by cases e; exact Nb2_b3.out rfl)); clear Kb2; have Kb2 := Aside0.mk k_; clear k_ g_ cb1_0 cb1_1 cb1_2 cb1_3 cb1_4 cb1_5 cb1_6 cb1_7 cb1_8 cb1_9 cb1_10 cb1_11 cb1_12 cb1_13)
      | (refine store_agg rfl 31 (.tmp 3) (.tmp 46) rfl rfl b3 #[.slice none 0 0, .slice none 0 0, .int .i64 0, .int .i64 0, .int .i64 0, .int .i64 0, .int .i64 0, .int .i64 0, .int .i64 0, .int .i64 0, .int .i64 0, .int .i64 0, .int .i64 0, .bool false] 31 _ rfl rfl Kb3.out size31 rfl (by simp [Value.oneCell']) ?_; intro w6 k_ g_; replace HB := Aside0.mk (HB.out.grown g_ HB.out.size (fun r e => by cases e; exact Gb3.out)); replace Kb2 := Aside0.mk (blk_grown Kb2.out g_ (fun e => by cases e; exact Nb2_b3.out rfl)); clear Kb3; have Kb3 := Aside0.mk k_; clear k_ g_)
      | fail)
    exact bodyPost_ret (results_cct rfl _ _ b2 b3 _ _ _ _ _ _ _ _ rfl Kb2.out Tryz.underlying30 rfl size30 rfl Kb3.out Tryz.underlying31 rfl size31) rfl ⟨rfl, HB.out⟩
  by_cases h6 : floor < 0
  · have h2' : ¬ (40 : Int) < (hs.length : Int) := by omega
    have h1' : ¬ (40 : Int) < (xs.length : Int) := by omega
    clear hno hrv h02
    go_enter Tryz.func6, Tryz.ntmps6
    go_wp2_with (first
      | ((with_reducible refine gate_dst (N := 1) rfl ?_); refine box_event ?hg (N := 1) ?hd (cs := #[.slice Al xs.length cl, .slice Ah hs.length ch, .int .i64 p.r0, .int .i64 p.r1, .int .i64 p.r2, .int .i64 p.r3, .int .i64 p.r4, .int .i64 p.r5, .int .i64 p.r6, .int .i64 p.r7, .int .i64 p.r8, .int .i64 hour, .int .i64 floor, .bool sw]) (t := 27) ?hr ?_; (case hd => rfl); (case hg => rfl); (case hr => first | (go_simp; done) | (go_simp; rfl)); intro b1 hb1 w1 Kb1 hb_; have Gb1 := Aside0.mk (by rw [hb1]; exact HB.out.size : W.heap.size ≤ b1); replace HB := Aside0.mk (below_step HB.out hb_); clear hb1; clear hb_; have cb1_0 := blk_cell Kb1 0; have cb1_1 := blk_cell Kb1 1; have cb1_2 := blk_cell Kb1 2; have cb1_3 := blk_cell Kb1 3; have cb1_4 := blk_cell Kb1 4; have cb1_5 := blk_cell Kb1 5; have cb1_6 := blk_cell Kb1 6; have cb1_7 := blk_cell Kb1 7; have cb1_8 := blk_cell Kb1 8; have cb1_9 := blk_cell Kb1 9; have cb1_10 := blk_cell Kb1 10; have cb1_11 := blk_cell Kb1 11; have cb1_12 := blk_cell Kb1 12; have cb1_13 := blk_cell Kb1 13; simp only [List.getElem?_toArray, List.getElem?_cons_zero, List.getElem?_cons_succ] at cb1_0 cb1_1 cb1_2 cb1_3 cb1_4 cb1_5 cb1_6 cb1_7 cb1_8 cb1_9 cb1_10 cb1_11 cb1_12 cb1_13; replace Kb1 := Aside0.mk Kb1)
      | ((with_reducible refine gate_dst (N := 2) rfl ?_); refine box_event ?hg (N := 2) ?hd (cs := #[.pointer none, .slice none 0 0, .int .i64 0, .int .i64 0, .int .i64 0, .int .i64 0, .int .i64 0, .int .i64 0, .int .i64 0, .int .i64 0, .int .i64 0, .int .i64 0, .int .i64 0, .bool false]) (t := 30) ?hr ?_; (case hd => rfl); (case hg => rfl); (case hr => first | (go_simp; done) | (go_simp; rfl)); intro b2 hb2 w2 Kb2 hb_; have Gb2 := Aside0.mk (by rw [hb2]; exact HB.out.size : W.heap.size ≤ b2); have Nb1_b2 := Aside0.mk (fun e => by have := blk_lt Kb1.out; omega : b1 ≠ b2); replace HB := Aside0.mk (below_step HB.out hb_); clear hb2; replace cb1_0 := pw_cell_below hb_ cb1_0; replace cb1_1 := pw_cell_below hb_ cb1_1; replace cb1_2 := pw_cell_below hb_ cb1_2; replace cb1_3 := pw_cell_below hb_ cb1_3; replace cb1_4 := pw_cell_below hb_ cb1_4; replace cb1_5 := pw_cell_below hb_ cb1_5; replace cb1_6 := pw_cell_below hb_ cb1_6; replace cb1_7 := pw_cell_below hb_ cb1_7; replace cb1_8 := pw_cell_below hb_ cb1_8; replace cb1_9 := pw_cell_below hb_ cb1_9; replace cb1_10 := pw_cell_below hb_ cb1_10; replace cb1_11 := pw_cell_below hb_ cb1_11; replace cb1_12 := pw_cell_below hb_ cb1_12; replace cb1_13 := pw_cell_below hb_ cb1_13; replace Kb1 := Aside0.mk ((hb_.block _ (blk_lt Kb1.out)).trans Kb1.out); clear hb_; replace Kb2 := Aside0.mk Kb2)
      | ((with_reducible refine gate_dst (N := 3) rfl ?_); refine box_event ?hg (N := 3) ?hd (cs := #[.slice none 0 0, .slice none 0 0, .int .i64 0, .int .i64 0, .int .i64 0, .int .i64 0, .int .i64 0, .int .i64 0, .int .i64 0, .int .i64 0, .int .i64 0, .int .i64 0, .int .i64 0, .bool false]) (t := 31) ?hr ?_; (case hd => rfl); (case hg => rfl); (case hr => first | (go_simp; done) | (go_simp; rfl)); intro b3 hb3 w3 Kb3 hb_; have Gb3 := Aside0.mk (by rw [hb3]; exact HB.out.size : W.heap.size ≤ b3); have Nb1_b3 := Aside0.mk (fun e => by have := blk_lt Kb1.out; omega : b1 ≠ b3); have Nb2_b3 := Aside0.mk (fun e => by have := blk_lt Kb2.out; omega : b2 ≠ b3); replace HB := Aside0.mk (below_step HB.out hb_); clear hb3; replace cb1_0 := pw_cell_below hb_ cb1_0; replace cb1_1 := pw_cell_below hb_ cb1_1; replace cb1_2 := pw_cell_below hb_ cb1_2; replace cb1_3 := pw_cell_below hb_ cb1_3; replace cb1_4 := pw_cell_below hb_ cb1_4; replace cb1_5 := pw_cell_below hb_ cb1_5; replace cb1_6 := pw_cell_below hb_ cb1_6; replace cb1_7 := pw_cell_below hb_ cb1_7; replace cb1_8 := pw_cell_below hb_ cb1_8; replace cb1_9 := pw_cell_below hb_ cb1_9; replace cb1_10 := pw_cell_below hb_ cb1_10; replace cb1_11 := pw_cell_below hb_ cb1_11; replace cb1_12 := pw_cell_below hb_ cb1_12; replace cb1_13 := pw_cell_below hb_ cb1_13; replace Kb1 := Aside0.mk ((hb_.block _ (blk_lt Kb1.out)).trans Kb1.out); replace Kb2 := Aside0.mk ((hb_.block _ (blk_lt Kb2.out)).trans Kb2.out); clear hb_; replace Kb3 := Aside0.mk Kb3)
      | (go_at_call 23; refine (ossuaryref18_Check.calls 5 p.r0 p.r1 p.r2 p.r3 p.r4 p.r5 p.r6 p.r7 p.r8 _ _ HCK.out).mono ?_; rintro e w4 ⟨rfl, hb_⟩; replace HB := Aside0.mk (below_step HB.out hb_); replace cb1_0 := pw_cell_below hb_ cb1_0; replace cb1_1 := pw_cell_below hb_ cb1_1; replace cb1_2 := pw_cell_below hb_ cb1_2; replace cb1_3 := pw_cell_below hb_ cb1_3; replace cb1_4 := pw_cell_below hb_ cb1_4; replace cb1_5 := pw_cell_below hb_ cb1_5; replace cb1_6 := pw_cell_below hb_ cb1_6; replace cb1_7 := pw_cell_below hb_ cb1_7; replace cb1_8 := pw_cell_below hb_ cb1_8; replace cb1_9 := pw_cell_below hb_ cb1_9; replace cb1_10 := pw_cell_below hb_ cb1_10; replace cb1_11 := pw_cell_below hb_ cb1_11; replace cb1_12 := pw_cell_below hb_ cb1_12; replace cb1_13 := pw_cell_below hb_ cb1_13; replace Kb1 := Aside0.mk ((hb_.block _ (blk_lt Kb1.out)).trans Kb1.out); replace Kb2 := Aside0.mk ((hb_.block _ (blk_lt Kb2.out)).trans Kb2.out); replace Kb3 := Aside0.mk ((hb_.block _ (blk_lt Kb3.out)).trans Kb3.out); clear hb_)
      | (refine store_agg rfl 30 (.tmp 2) (.tmp 45) rfl rfl b2 #[.pointer none, .slice none 0 0, .int .i64 0, .int .i64 0, .int .i64 0, .int .i64 0, .int .i64 0, .int .i64 0, .int .i64 0, .int .i64 0, .int .i64 0, .int .i64 0, .int .i64 0, .bool false] 30 _ rfl rfl Kb2.out size30 rfl (by simp [Value.oneCell']) ?_; intro w5 k_ g_; replace HB := Aside0.mk (HB.out.grown g_ HB.out.size (fun r e => by cases e; exact Gb2.out)); replace Kb3 := Aside0.mk (blk_grown Kb3.out g_ (fun e => by cases e; exact Nb2_b3.out rfl)); clear Kb2; have Kb2 := Aside0.mk k_; clear k_ g_ cb1_0 cb1_1 cb1_2 cb1_3 cb1_4 cb1_5 cb1_6 cb1_7 cb1_8 cb1_9 cb1_10 cb1_11 cb1_12 cb1_13)
      | (refine store_agg rfl 31 (.tmp 3) (.tmp 46) rfl rfl b3 #[.slice none 0 0, .slice none 0 0, .int .i64 0, .int .i64 0, .int .i64 0, .int .i64 0, .int .i64 0, .int .i64 0, .int .i64 0, .int .i64 0, .int .i64 0, .int .i64 0, .int .i64 0, .bool false] 31 _ rfl rfl Kb3.out size31 rfl (by simp [Value.oneCell']) ?_; intro w6 k_ g_; replace HB := Aside0.mk (HB.out.grown g_ HB.out.size (fun r e => by cases e; exact Gb3.out)); replace Kb2 := Aside0.mk (blk_grown Kb2.out g_ (fun e => by cases e; exact Nb2_b3.out rfl)); clear Kb3; have Kb3 := Aside0.mk k_; clear k_ g_)
      | fail)
    exact bodyPost_ret (results_cct rfl _ _ b2 b3 _ _ _ _ _ _ _ _ rfl Kb2.out Tryz.underlying30 rfl size30 rfl Kb3.out Tryz.underlying31 rfl size31) rfl ⟨rfl, HB.out⟩
  have h7 : 16777217 < floor := by
    apply Classical.byContradiction
    intro hn
    exact hno ⟨by omega, by omega, hrv.1 rfl, by omega, by omega, by omega, by omega⟩
  · have h2' : ¬ (40 : Int) < (hs.length : Int) := by omega
    have h1' : ¬ (40 : Int) < (xs.length : Int) := by omega
    clear hno hrv h02
    go_enter Tryz.func6, Tryz.ntmps6
    go_wp2_with (first
      | ((with_reducible refine gate_dst (N := 1) rfl ?_); refine box_event ?hg (N := 1) ?hd (cs := #[.slice Al xs.length cl, .slice Ah hs.length ch, .int .i64 p.r0, .int .i64 p.r1, .int .i64 p.r2, .int .i64 p.r3, .int .i64 p.r4, .int .i64 p.r5, .int .i64 p.r6, .int .i64 p.r7, .int .i64 p.r8, .int .i64 hour, .int .i64 floor, .bool sw]) (t := 27) ?hr ?_; (case hd => rfl); (case hg => rfl); (case hr => first | (go_simp; done) | (go_simp; rfl)); intro b1 hb1 w1 Kb1 hb_; have Gb1 := Aside0.mk (by rw [hb1]; exact HB.out.size : W.heap.size ≤ b1); replace HB := Aside0.mk (below_step HB.out hb_); clear hb1; clear hb_; have cb1_0 := blk_cell Kb1 0; have cb1_1 := blk_cell Kb1 1; have cb1_2 := blk_cell Kb1 2; have cb1_3 := blk_cell Kb1 3; have cb1_4 := blk_cell Kb1 4; have cb1_5 := blk_cell Kb1 5; have cb1_6 := blk_cell Kb1 6; have cb1_7 := blk_cell Kb1 7; have cb1_8 := blk_cell Kb1 8; have cb1_9 := blk_cell Kb1 9; have cb1_10 := blk_cell Kb1 10; have cb1_11 := blk_cell Kb1 11; have cb1_12 := blk_cell Kb1 12; have cb1_13 := blk_cell Kb1 13; simp only [List.getElem?_toArray, List.getElem?_cons_zero, List.getElem?_cons_succ] at cb1_0 cb1_1 cb1_2 cb1_3 cb1_4 cb1_5 cb1_6 cb1_7 cb1_8 cb1_9 cb1_10 cb1_11 cb1_12 cb1_13; replace Kb1 := Aside0.mk Kb1)
      | ((with_reducible refine gate_dst (N := 2) rfl ?_); refine box_event ?hg (N := 2) ?hd (cs := #[.pointer none, .slice none 0 0, .int .i64 0, .int .i64 0, .int .i64 0, .int .i64 0, .int .i64 0, .int .i64 0, .int .i64 0, .int .i64 0, .int .i64 0, .int .i64 0, .int .i64 0, .bool false]) (t := 30) ?hr ?_; (case hd => rfl); (case hg => rfl); (case hr => first | (go_simp; done) | (go_simp; rfl)); intro b2 hb2 w2 Kb2 hb_; have Gb2 := Aside0.mk (by rw [hb2]; exact HB.out.size : W.heap.size ≤ b2); have Nb1_b2 := Aside0.mk (fun e => by have := blk_lt Kb1.out; omega : b1 ≠ b2); replace HB := Aside0.mk (below_step HB.out hb_); clear hb2; replace cb1_0 := pw_cell_below hb_ cb1_0; replace cb1_1 := pw_cell_below hb_ cb1_1; replace cb1_2 := pw_cell_below hb_ cb1_2; replace cb1_3 := pw_cell_below hb_ cb1_3; replace cb1_4 := pw_cell_below hb_ cb1_4; replace cb1_5 := pw_cell_below hb_ cb1_5; replace cb1_6 := pw_cell_below hb_ cb1_6; replace cb1_7 := pw_cell_below hb_ cb1_7; replace cb1_8 := pw_cell_below hb_ cb1_8; replace cb1_9 := pw_cell_below hb_ cb1_9; replace cb1_10 := pw_cell_below hb_ cb1_10; replace cb1_11 := pw_cell_below hb_ cb1_11; replace cb1_12 := pw_cell_below hb_ cb1_12; replace cb1_13 := pw_cell_below hb_ cb1_13; replace Kb1 := Aside0.mk ((hb_.block _ (blk_lt Kb1.out)).trans Kb1.out); clear hb_; replace Kb2 := Aside0.mk Kb2)
      | ((with_reducible refine gate_dst (N := 3) rfl ?_); refine box_event ?hg (N := 3) ?hd (cs := #[.slice none 0 0, .slice none 0 0, .int .i64 0, .int .i64 0, .int .i64 0, .int .i64 0, .int .i64 0, .int .i64 0, .int .i64 0, .int .i64 0, .int .i64 0, .int .i64 0, .int .i64 0, .bool false]) (t := 31) ?hr ?_; (case hd => rfl); (case hg => rfl); (case hr => first | (go_simp; done) | (go_simp; rfl)); intro b3 hb3 w3 Kb3 hb_; have Gb3 := Aside0.mk (by rw [hb3]; exact HB.out.size : W.heap.size ≤ b3); have Nb1_b3 := Aside0.mk (fun e => by have := blk_lt Kb1.out; omega : b1 ≠ b3); have Nb2_b3 := Aside0.mk (fun e => by have := blk_lt Kb2.out; omega : b2 ≠ b3); replace HB := Aside0.mk (below_step HB.out hb_); clear hb3; replace cb1_0 := pw_cell_below hb_ cb1_0; replace cb1_1 := pw_cell_below hb_ cb1_1; replace cb1_2 := pw_cell_below hb_ cb1_2; replace cb1_3 := pw_cell_below hb_ cb1_3; replace cb1_4 := pw_cell_below hb_ cb1_4; replace cb1_5 := pw_cell_below hb_ cb1_5; replace cb1_6 := pw_cell_below hb_ cb1_6; replace cb1_7 := pw_cell_below hb_ cb1_7; replace cb1_8 := pw_cell_below hb_ cb1_8; replace cb1_9 := pw_cell_below hb_ cb1_9; replace cb1_10 := pw_cell_below hb_ cb1_10; replace cb1_11 := pw_cell_below hb_ cb1_11; replace cb1_12 := pw_cell_below hb_ cb1_12; replace cb1_13 := pw_cell_below hb_ cb1_13; replace Kb1 := Aside0.mk ((hb_.block _ (blk_lt Kb1.out)).trans Kb1.out); replace Kb2 := Aside0.mk ((hb_.block _ (blk_lt Kb2.out)).trans Kb2.out); clear hb_; replace Kb3 := Aside0.mk Kb3)
      | (go_at_call 23; refine (ossuaryref18_Check.calls 5 p.r0 p.r1 p.r2 p.r3 p.r4 p.r5 p.r6 p.r7 p.r8 _ _ HCK.out).mono ?_; rintro e w4 ⟨rfl, hb_⟩; replace HB := Aside0.mk (below_step HB.out hb_); replace cb1_0 := pw_cell_below hb_ cb1_0; replace cb1_1 := pw_cell_below hb_ cb1_1; replace cb1_2 := pw_cell_below hb_ cb1_2; replace cb1_3 := pw_cell_below hb_ cb1_3; replace cb1_4 := pw_cell_below hb_ cb1_4; replace cb1_5 := pw_cell_below hb_ cb1_5; replace cb1_6 := pw_cell_below hb_ cb1_6; replace cb1_7 := pw_cell_below hb_ cb1_7; replace cb1_8 := pw_cell_below hb_ cb1_8; replace cb1_9 := pw_cell_below hb_ cb1_9; replace cb1_10 := pw_cell_below hb_ cb1_10; replace cb1_11 := pw_cell_below hb_ cb1_11; replace cb1_12 := pw_cell_below hb_ cb1_12; replace cb1_13 := pw_cell_below hb_ cb1_13; replace Kb1 := Aside0.mk ((hb_.block _ (blk_lt Kb1.out)).trans Kb1.out); replace Kb2 := Aside0.mk ((hb_.block _ (blk_lt Kb2.out)).trans Kb2.out); replace Kb3 := Aside0.mk ((hb_.block _ (blk_lt Kb3.out)).trans Kb3.out); clear hb_)
      | (refine store_agg rfl 30 (.tmp 2) (.tmp 45) rfl rfl b2 #[.pointer none, .slice none 0 0, .int .i64 0, .int .i64 0, .int .i64 0, .int .i64 0, .int .i64 0, .int .i64 0, .int .i64 0, .int .i64 0, .int .i64 0, .int .i64 0, .int .i64 0, .bool false] 30 _ rfl rfl Kb2.out size30 rfl (by simp [Value.oneCell']) ?_; intro w5 k_ g_; replace HB := Aside0.mk (HB.out.grown g_ HB.out.size (fun r e => by cases e; exact Gb2.out)); replace Kb3 := Aside0.mk (blk_grown Kb3.out g_ (fun e => by cases e; exact Nb2_b3.out rfl)); clear Kb2; have Kb2 := Aside0.mk k_; clear k_ g_ cb1_0 cb1_1 cb1_2 cb1_3 cb1_4 cb1_5 cb1_6 cb1_7 cb1_8 cb1_9 cb1_10 cb1_11 cb1_12 cb1_13)
      | (refine store_agg rfl 31 (.tmp 3) (.tmp 46) rfl rfl b3 #[.slice none 0 0, .slice none 0 0, .int .i64 0, .int .i64 0, .int .i64 0, .int .i64 0, .int .i64 0, .int .i64 0, .int .i64 0, .int .i64 0, .int .i64 0, .int .i64 0, .int .i64 0, .bool false] 31 _ rfl rfl Kb3.out size31 rfl (by simp [Value.oneCell']) ?_; intro w6 k_ g_; replace HB := Aside0.mk (HB.out.grown g_ HB.out.size (fun r e => by cases e; exact Gb3.out)); replace Kb2 := Aside0.mk (blk_grown Kb2.out g_ (fun e => by cases e; exact Nb2_b3.out rfl)); clear Kb3; have Kb3 := Aside0.mk k_; clear k_ g_)
      | fail)
    exact bodyPost_ret (results_cct rfl _ _ b2 b3 _ _ _ _ _ _ _ _ rfl Kb2.out Tryz.underlying30 rfl size30 rfl Kb3.out Tryz.underlying31 rfl size31) rfl ⟨rfl, HB.out⟩
end Go.Proofs.YthhmfeiefbnhcaaGreat.Due
namespace Go.Proofs.YthhmfeiefbnhcaaGreatW.PrintWords.Kd
open Go.RowKit
section
variable {α : Type} {d : Kd α} {e base base' : Nat} {ok : Nat → Prop} {W w1 : World} {v : Value} {xs : List α}
theorem V_bound_id (h : V d e W base ok v xs) : V d e W base' ok v xs := V_map h (fun _ hf => hf)
theorem V_elderC (h : V d e W base ok v xs) (hb : Below W.heap.size W w1) {g : Nat} (hg : g = W.heap.size) : V d e w1 base' (fun k => ok k ∧ k ≠ g) v xs := V_map h (fun _ hf => F_mono (F_old hf hb) (fun k hk => ⟨hk.1, by have := hk.2; omega⟩))
theorem C_nil_ (W : World) : d.C W none ([] : List α).length [] := ⟨rfl, Nat.zero_le _, fun h => absurd h (Nat.lt_irrefl 0)⟩
end
end Go.Proofs.YthhmfeiefbnhcaaGreatW.PrintWords.Kd
namespace Go.Proofs.YthhmfeiefbnhcaaGreat.Due
open Go.RowKit Go.Proofs.YthhmfeiefbnhcaaGreat.PDueParts Go.Proofs.YthhmfeiefbnhcaaGreatW.PrintWords Go.Proofs.YthhmfeiefbnhcaaGreatW.PrintLast
set_option linter.unusedVariables false
set_option linter.unusedSimpArgs false
theorem CatOwn.other {w w1 : World} {base cb ob : Nat} {l : List S183} (h : CatOwn w base cb ob l) {g : Nat} {cs : Array Value} {t : TypeId} {fr : Nat × Nat} (hb : w.heap[g]? = some (.cells cs t fr)) (h0 : t ≠ 134) (h1 : t ≠ 178) (h2 : ∀ q, q ∈ (183 : Nat) :: k183.E → q ≠ t) (hg : w.grownBy w1 (some g)) : CatOwn w1 base cb ob l := by
  obtain ⟨v, hv, hR⟩ := h.map.own
  refine ⟨blk_grown h.blk hg (fun e => ?_), ⟨⟨v, blk_grown hv hg (fun e => ?_), R_other hR hb h2 hg⟩, h.map.ge⟩⟩
  · cases e; rw [h.blk] at hb; cases hb; exact h0 rfl
  · cases e; rw [hv] at hb; cases hb; exact h1 rfl
theorem GoodL.nil : GoodL [] := ⟨fun q h => by simp at h, fun q h => by simp at h, List.Pairwise.nil⟩
theorem cput_len (l : List S183) (x : S43) : (cputP l x).2.length ≤ l.length + 1 := by
  unfold cputP
  split
  · split
    · show (insAt l _ x).length ≤ _
      rw [insAt_length]; exact Nat.le_refl _
    · show l.length ≤ _; omega
  · show l.length ≤ _; omega
theorem refapply_calls (w : World) (ok : Nat → Prop) (A0 : Option Addr) (c0 : Nat) (l : List S183) (x : S43) (ad : Addr) (c2 b0 : Nat) (hG : GoodL l) (hsz : l.length ≤ 1000) (hV : Kd.V k43 43 w b0 (fun j => ok j) (.slice A0 (l.map (·.f1)).length c0) (l.map (·.f1))) (hx : Kd.C k43 w (some ad) 1 [x]) (hc : 1 ≤ c2) :
    Calls Tryz.prog 26 #[.slice A0 l.length c0, .slice none 0 0, .slice (some ad) 1 c2] w fun e w' => ∃ v0_ : Value, e = .returned (.tuple #[v0_, .int .i64 (cputP l x).1]) ∧ Kd.V k43 43 w' w.heap.size (fun j => (ok j ∨ w.heap.size ≤ j)) v0_ ((cputP l x).2.map (·.f1)) ∧ Below w.heap.size w w' := by
  obtain ⟨kk, hkk⟩ : ∃ kk : Nat, 6000 ≤ kk := ⟨6000, Nat.le_refl _⟩
  have hr := ref_apply hG x kk (by omega) (by omega)
  obtain ⟨r1, h1⟩ : ∃ r1, r1 = (cputP l x).2.map (·.f1) := ⟨_, rfl⟩
  obtain ⟨r2, h2⟩ : ∃ r2, r2 = (cputP l x).1 := ⟨_, rfl⟩
  rw [← h1, ← h2] at hr ⊢
  obtain ⟨l0, h0⟩ : ∃ l0, l0 = l.map (·.f1) := ⟨_, rfl⟩
  have hl : l.length = l0.length := by rw [h0, List.length_map]
  rw [← h0] at hr hV
  rw [hl]
  have := ossuaryref20_Apply.calls kk ok A0 c0 l0 none 0 [] (some ad) c2 [x] r1 r2 w (Kd.V_bound_id hV) (Kd.C_nil_ w) (Nat.le_refl _) hx hc hr
  exact this
set_option maxRecDepth 100000 in
set_option maxHeartbeats 8000000 in
theorem made_yes (W : World) (Al : Option Addr) (cl : Nat) (xs : List S43) (Ah : Option Addr) (ch : Nat) (hs : List Int) (p : Pol) (hour floor : Int) (sw : Bool) (hX : Kd.C k43 W Al xs.length xs) (hcl : xs.length ≤ cl) (hclm : cl ≤ maxLen) (hsp : Spoken xs hs p hour floor) :
    Calls Tryz.prog 6 #[.agg #[.slice Al xs.length cl, .slice Ah hs.length ch, .int .i64 p.r0, .int .i64 p.r1, .int .i64 p.r2, .int .i64 p.r3, .int .i64 p.r4, .int .i64 p.r5, .int .i64 p.r6, .int .i64 p.r7, .int .i64 p.r8, .int .i64 hour, .int .i64 floor, .bool sw]] W fun e w' => ∃ cb ob A c l Ar cr, e = .returned (.tuple #[.agg #[.pointer (some ⟨cb, 0, none⟩), .slice Ah hs.length ch, .int .i64 p.r0, .int .i64 p.r1, .int .i64 p.r2, .int .i64 p.r3, .int .i64 p.r4, .int .i64 p.r5, .int .i64 p.r6, .int .i64 p.r7, .int .i64 p.r8, .int .i64 hour, .int .i64 floor, .bool sw], .agg #[.slice Ar (l.map (·.f1)).length cr, .slice Ah hs.length ch, .int .i64 p.r0, .int .i64 p.r1, .int .i64 p.r2, .int .i64 p.r3, .int .i64 p.r4, .int .i64 p.r5, .int .i64 p.r6, .int .i64 p.r7, .int .i64 p.r8, .int .i64 hour, .int .i64 floor, .bool sw], .bool true]) ∧ CatAt w' cb ob A c l ∧ GoodL l ∧ l.length ≤ 40 ∧ Kd.C k43 w' Ar (l.map (·.f1)).length (l.map (·.f1)) ∧ W.heap.size ≤ cb ∧ Below W.heap.size W w' := by
  obtain ⟨rv, hck, hrv, h02⟩ := check18 p
  obtain ⟨s1, s2, s3, s4, s5, s6, s7⟩ := hsp
  obtain rfl : rv = 0 := hrv.2 s3
  have HCK := Aside0.mk hck
  have HX := Aside0.mk hX
  have HCL := Aside0.mk hcl
  have HCM := Aside0.mk hclm
  have S1 := Aside0.mk s1
  have S2 := Aside0.mk s2
  have f1 : ¬ (40 : Int) < (xs.length : Int) := by omega
  have f1' : ¬ 40 < xs.length := by omega
  have f2 : ¬ (40 : Int) < (hs.length : Int) := by omega
  have f2' : ¬ 40 < hs.length := by omega
  have f4 : ¬ hour < 0 := by omega
  have f5 : ¬ 1099511627776 < hour := by omega
  have f6 : ¬ floor < 0 := by omega
  have f7 : ¬ 16777217 < floor := by omega
  have HB := Aside0.mk (Below.refl W.heap.size W)
  clear hck hrv h02 s1 s2 s3 s4 s5 s6 s7 hX hcl hclm
  go_enter Tryz.func6, Tryz.ntmps6
  go_wp2_with (first
    | ((with_reducible refine gate_dst (N := 1) rfl ?_); refine box_event ?hg (N := 1) ?hd (cs := #[.slice Al xs.length cl, .slice Ah hs.length ch, .int .i64 p.r0, .int .i64 p.r1, .int .i64 p.r2, .int .i64 p.r3, .int .i64 p.r4, .int .i64 p.r5, .int .i64 p.r6, .int .i64 p.r7, .int .i64 p.r8, .int .i64 hour, .int .i64 floor, .bool sw]) (t := 27) ?hr ?_; (case hd => rfl); (case hg => rfl); (case hr => first | (go_simp; done) | (go_simp; rfl)); intro b1 hb1 w1 Kb1 hb_; have Gb1 := Aside0.mk (by rw [hb1]; exact HB.out.size : W.heap.size ≤ b1); replace HB := Aside0.mk (below_step HB.out hb_); clear hb1; clear hb_; have cb1_0 := blk_cell Kb1 0; have cb1_1 := blk_cell Kb1 1; have cb1_2 := blk_cell Kb1 2; have cb1_3 := blk_cell Kb1 3; have cb1_4 := blk_cell Kb1 4; have cb1_5 := blk_cell Kb1 5; have cb1_6 := blk_cell Kb1 6; have cb1_7 := blk_cell Kb1 7; have cb1_8 := blk_cell Kb1 8; have cb1_9 := blk_cell Kb1 9; have cb1_10 := blk_cell Kb1 10; have cb1_11 := blk_cell Kb1 11; have cb1_12 := blk_cell Kb1 12; have cb1_13 := blk_cell Kb1 13; simp only [List.getElem?_toArray, List.getElem?_cons_zero, List.getElem?_cons_succ] at cb1_0 cb1_1 cb1_2 cb1_3 cb1_4 cb1_5 cb1_6 cb1_7 cb1_8 cb1_9 cb1_10 cb1_11 cb1_12 cb1_13; replace Kb1 := Aside0.mk Kb1)
    | ((with_reducible refine gate_dst (N := 2) rfl ?_); refine box_event ?hg (N := 2) ?hd (cs := #[.pointer none, .slice none 0 0, .int .i64 0, .int .i64 0, .int .i64 0, .int .i64 0, .int .i64 0, .int .i64 0, .int .i64 0, .int .i64 0, .int .i64 0, .int .i64 0, .int .i64 0, .bool false]) (t := 30) ?hr ?_; (case hd => rfl); (case hg => rfl); (case hr => first | (go_simp; done) | (go_simp; rfl)); intro b2 hb2 w2 Kb2 hb_; have Gb2 := Aside0.mk (by rw [hb2]; exact HB.out.size : W.heap.size ≤ b2); have Nb1_b2 := Aside0.mk (fun e => by have := blk_lt Kb1.out; omega : b1 ≠ b2); replace HB := Aside0.mk (below_step HB.out hb_); clear hb2; replace cb1_0 := pw_cell_below hb_ cb1_0; replace cb1_1 := pw_cell_below hb_ cb1_1; replace cb1_2 := pw_cell_below hb_ cb1_2; replace cb1_3 := pw_cell_below hb_ cb1_3; replace cb1_4 := pw_cell_below hb_ cb1_4; replace cb1_5 := pw_cell_below hb_ cb1_5; replace cb1_6 := pw_cell_below hb_ cb1_6; replace cb1_7 := pw_cell_below hb_ cb1_7; replace cb1_8 := pw_cell_below hb_ cb1_8; replace cb1_9 := pw_cell_below hb_ cb1_9; replace cb1_10 := pw_cell_below hb_ cb1_10; replace cb1_11 := pw_cell_below hb_ cb1_11; replace cb1_12 := pw_cell_below hb_ cb1_12; replace cb1_13 := pw_cell_below hb_ cb1_13; replace Kb1 := Aside0.mk ((hb_.block _ (blk_lt Kb1.out)).trans Kb1.out); clear hb_; replace Kb2 := Aside0.mk Kb2)
    | ((with_reducible refine gate_dst (N := 3) rfl ?_); refine box_event ?hg (N := 3) ?hd (cs := #[.slice none 0 0, .slice none 0 0, .int .i64 0, .int .i64 0, .int .i64 0, .int .i64 0, .int .i64 0, .int .i64 0, .int .i64 0, .int .i64 0, .int .i64 0, .int .i64 0, .int .i64 0, .bool false]) (t := 31) ?hr ?_; (case hd => rfl); (case hg => rfl); (case hr => first | (go_simp; done) | (go_simp; rfl)); intro b3 hb3 w3 Kb3 hb_; have Gb3 := Aside0.mk (by rw [hb3]; exact HB.out.size : W.heap.size ≤ b3); have Nb1_b3 := Aside0.mk (fun e => by have := blk_lt Kb1.out; omega : b1 ≠ b3); have Nb2_b3 := Aside0.mk (fun e => by have := blk_lt Kb2.out; omega : b2 ≠ b3); replace HB := Aside0.mk (below_step HB.out hb_); clear hb3; replace cb1_0 := pw_cell_below hb_ cb1_0; replace cb1_1 := pw_cell_below hb_ cb1_1; replace cb1_2 := pw_cell_below hb_ cb1_2; replace cb1_3 := pw_cell_below hb_ cb1_3; replace cb1_4 := pw_cell_below hb_ cb1_4; replace cb1_5 := pw_cell_below hb_ cb1_5; replace cb1_6 := pw_cell_below hb_ cb1_6; replace cb1_7 := pw_cell_below hb_ cb1_7; replace cb1_8 := pw_cell_below hb_ cb1_8; replace cb1_9 := pw_cell_below hb_ cb1_9; replace cb1_10 := pw_cell_below hb_ cb1_10; replace cb1_11 := pw_cell_below hb_ cb1_11; replace cb1_12 := pw_cell_below hb_ cb1_12; replace cb1_13 := pw_cell_below hb_ cb1_13; replace Kb1 := Aside0.mk ((hb_.block _ (blk_lt Kb1.out)).trans Kb1.out); replace Kb2 := Aside0.mk ((hb_.block _ (blk_lt Kb2.out)).trans Kb2.out); clear hb_; replace Kb3 := Aside0.mk Kb3)
    | (go_at_call 23; refine (ossuaryref18_Check.calls 5 p.r0 p.r1 p.r2 p.r3 p.r4 p.r5 p.r6 p.r7 p.r8 _ _ HCK.out).mono ?_; rintro e w4 ⟨rfl, hb_⟩; replace HB := Aside0.mk (below_step HB.out hb_); replace cb1_0 := pw_cell_below hb_ cb1_0; replace cb1_1 := pw_cell_below hb_ cb1_1; replace cb1_2 := pw_cell_below hb_ cb1_2; replace cb1_3 := pw_cell_below hb_ cb1_3; replace cb1_4 := pw_cell_below hb_ cb1_4; replace cb1_5 := pw_cell_below hb_ cb1_5; replace cb1_6 := pw_cell_below hb_ cb1_6; replace cb1_7 := pw_cell_below hb_ cb1_7; replace cb1_8 := pw_cell_below hb_ cb1_8; replace cb1_9 := pw_cell_below hb_ cb1_9; replace cb1_10 := pw_cell_below hb_ cb1_10; replace cb1_11 := pw_cell_below hb_ cb1_11; replace cb1_12 := pw_cell_below hb_ cb1_12; replace cb1_13 := pw_cell_below hb_ cb1_13; replace Kb1 := Aside0.mk ((hb_.block _ (blk_lt Kb1.out)).trans Kb1.out); replace Kb2 := Aside0.mk ((hb_.block _ (blk_lt Kb2.out)).trans Kb2.out); replace Kb3 := Aside0.mk ((hb_.block _ (blk_lt Kb3.out)).trans Kb3.out); clear hb_)
    | (go_at_call 24; refine (cnew_calls _).mono ?_; clear cb1_0 cb1_1 cb1_2 cb1_3 cb1_4 cb1_5 cb1_6 cb1_7 cb1_8 cb1_9 cb1_10 cb1_11 cb1_12 cb1_13; rintro e w5 ⟨cb, ob0, rfl, hCO, hcb, hb_⟩; have HCO := Aside0.mk hCO; have HCB := Aside0.mk hcb; have GCB := Aside0.mk (Nat.le_trans HB.out.size hcb); have B1C := Aside0.mk (Nat.lt_of_lt_of_le (blk_lt Kb1.out) hcb); have B2C := Aside0.mk (Nat.lt_of_lt_of_le (blk_lt Kb2.out) hcb); have B3C := Aside0.mk (Nat.lt_of_lt_of_le (blk_lt Kb3.out) hcb); clear hCO hcb; replace HB := Aside0.mk (below_step HB.out hb_); replace Kb1 := Aside0.mk ((hb_.block _ (blk_lt Kb1.out)).trans Kb1.out); replace Kb2 := Aside0.mk ((hb_.block _ (blk_lt Kb2.out)).trans Kb2.out); replace Kb3 := Aside0.mk ((hb_.block _ (blk_lt Kb3.out)).trans Kb3.out); clear hb_)
    | fail)
  obtain ⟨wB, hwB⟩ : ∃ wB, wB = w4.heap.size := ⟨_, rfl⟩
  rw [← hwB] at HCO HCB
  have HBB := Aside0.mk (show wB ≤ w5.heap.size by rw [hwB]; have := HCB.out; have := blk_lt HCO.out.blk; omega)
  clear hwB f1 f1' f2 f2' f4 f5 f6 f7
  go_loopw [6, 7] (fun v i wr => ∃ (k ob : Nat) (l : List S183), k ≤ xs.length ∧ i = .int .i64 k ∧ Aside0 (CatOwn wr wB cb ob l) ∧ Aside0 (GoodL l) ∧ Aside0 (l.length ≤ k) ∧ Aside0 (Kd.V k43 43 wr wr.heap.size (fun j => cb < j) v (l.map (·.f1))) ∧
      Aside0 (wr.heap[b1]? = some (.cells #[.slice Al xs.length cl, .slice Ah hs.length ch, .int .i64 p.r0, .int .i64 p.r1, .int .i64 p.r2, .int .i64 p.r3, .int .i64 p.r4, .int .i64 p.r5, .int .i64 p.r6, .int .i64 p.r7, .int .i64 p.r8, .int .i64 hour, .int .i64 floor, .bool sw] 27 (0, 0))) ∧ Aside0 (wr.heap[b2]? = some (.cells #[.pointer none, .slice none 0 0, .int .i64 0, .int .i64 0, .int .i64 0, .int .i64 0, .int .i64 0, .int .i64 0, .int .i64 0, .int .i64 0, .int .i64 0, .int .i64 0, .int .i64 0, .bool false] 30 (0, 0))) ∧ Aside0 (wr.heap[b3]? = some (.cells #[.slice none 0 0, .slice none 0 0, .int .i64 0, .int .i64 0, .int .i64 0, .int .i64 0, .int .i64 0, .int .i64 0, .int .i64 0, .int .i64 0, .int .i64 0, .int .i64 0, .int .i64 0, .bool false] 31 (0, 0))) ∧ Aside0 (wB ≤ wr.heap.size) ∧ Aside0 (Below W.heap.size W wr))
    (fun _ i _ => xs.length - (intOf i).toNat)
  case atStart => exact ⟨0, ob0, [], Nat.zero_le _, rfl, HCO, ⟨GoodL.nil⟩, ⟨Nat.le_refl _⟩, ⟨Kd.V_nil _ _ _ _ _⟩, Kb1, Kb2, Kb3, HBB, HB⟩
  case round =>
    have HBW := HB
    clear HB HCO Kb1 Kb2 Kb3 HBB
    obtain ⟨k, ob, l, hk, rfl, HCO, HG, HLL, HV, Kb1, Kb2, Kb3, HBB, HB⟩ := hrel
    have cb1_0 := blk_cell Kb1.out 0; simp only [List.getElem?_toArray, List.getElem?_cons_zero, List.getElem?_cons_succ] at cb1_0
    obtain ⟨A0, c0, hv0⟩ := Kd.V_slice HV.out
    subst hv0
    by_cases hlt : k < xs.length
    · obtain ⟨x, hx⟩ : ∃ x, xs[k] = x := ⟨_, rfl⟩
      obtain ⟨ad, hA, _⟩ := HX.out.2.2 (by omega)
      subst hA
      have HXC := Aside0.mk (show Kd.C k43 W (some (ad.add (k * 6))) 1 [x] by
        have hm := Kd.C_mid (lo := k) (hi := k + 1) HX.out (by omega) (by omega) HCL.out
        rw [if_neg (by have := HCL.out; omega), List.take_succ_eq_append_getElem hlt, hx, List.drop_append_of_le_length (by rw [List.length_take]; omega), List.drop_take_self] at hm
        exact hm)
      have HC1 := Aside0.mk (show 1 ≤ cl - k by have := HCL.out; omega)
      have hkb : (k : Int) < 9223372036854775807 := by have := S1.out; omega
      have hsl : ∀ Wx : World, (Instr.slice 22 (.slice (some ad) xs.length cl) (some (.int .i64 k)) (some (.int .i64 ((k : Int) + 1))) none).run Tryz.prog Wx =  .ok (.slice (some (ad.add (k * 6))) 1 (cl - k)) Wx := fun Wx => by
        obtain ⟨i43, hi43, hs43⟩ := Option.map_eq_some_iff.1 size43
        have := cut_mid (P := Tryz.prog) 22 43 .i64 .i64 Tryz.underlying22 hi43 6 hs43 (some ad) xs.length cl (k : Int) ((k : Int) + 1) (by omega) (by omega) (by omega) HCL.out Wx
        rw [this, Int.toNat_natCast, if_neg (by have := HCL.out; omega), show ((k : Int) + 1).toNat - k = 1 by omega]
        rfl
      clear hx
      go_wp2_with (first
        | (go_at_call 25; refine (apply_calls wr wB cb ob l x (ad.add (k * 6)) (cl - k) HCO.out HCB.out HG.out.rising (by have := HLL.out; have := S1.out; omega) HBB.out (Kd.C_below HXC.out HB.out) (fun h1 h2 => over_key HG.out (right_lt h1) h2)).mono ?_; rintro e w6 ⟨ob', rfl, hCO, hbb, hg⟩; replace HCO := Aside0.mk hCO; replace HV := Aside0.mk (Kd.V_grown HV.out hg (fun j hj e => absurd (Option.some.inj e) (Nat.ne_of_gt hj))); replace HB := Aside0.mk (HB.out.grown hg HB.out.size (fun r e => by cases e; exact GCB.out)); replace Kb1 := Aside0.mk (blk_grown Kb1.out hg (fun e => by have := B1C.out; cases e; omega)); replace Kb2 := Aside0.mk (blk_grown Kb2.out hg (fun e => by have := B2C.out; cases e; omega)); replace Kb3 := Aside0.mk (blk_grown Kb3.out hg (fun e => by have := B3C.out; cases e; omega)); replace HBB := Aside0.mk (Nat.le_trans HBB.out hg.size); clear cb1_0 hCO hbb hg; have cb1_0 := blk_cell Kb1.out 0; simp only [List.getElem?_toArray, List.getElem?_cons_zero, List.getElem?_cons_succ] at cb1_0; skip)
        | (go_at_call 26; refine (refapply_calls w6 (fun j => cb < j) A0 c0 l x (ad.add (k * 6)) (cl - k) _ HG.out (by have := HLL.out; have := S1.out; omega) HV.out (Kd.C_below HXC.out HB.out) HC1.out).mono ?_; rintro e w7 ⟨v1, rfl, hV, hb_⟩; replace HV := Aside0.mk (Kd.V_mono hV (fun j hj => hj.elim id (fun h => by have := HCO.out.blk; have := blk_lt this; omega))); clear hV; replace HCO := Aside0.mk (HCO.out.below hb_); replace HBB := Aside0.mk (Nat.le_trans HBB.out hb_.size); replace HB := Aside0.mk (below_step HB.out hb_); replace Kb1 := Aside0.mk ((hb_.block _ (blk_lt Kb1.out)).trans Kb1.out); replace Kb2 := Aside0.mk ((hb_.block _ (blk_lt Kb2.out)).trans Kb2.out); replace Kb3 := Aside0.mk ((hb_.block _ (blk_lt Kb3.out)).trans Kb3.out); clear hb_)
        | fail)
      clear hsl
      go_roundw
      case rel => exact ⟨k + 1, _, (cputP l x).2, by omega, by go_num, HCO, ⟨good_put HG.out x⟩, ⟨by have := HLL.out; have := cput_len l x; omega⟩, HV, Kb1, Kb2, Kb3, HBB, HB⟩
      case measure => simp [intOf]; omega
    · obtain rfl : k = xs.length := by omega
      clear hlt
      have cb1_0 := blk_cell Kb1.out 0; have cb1_1 := blk_cell Kb1.out 1; have cb1_2 := blk_cell Kb1.out 2; have cb1_3 := blk_cell Kb1.out 3; have cb1_4 := blk_cell Kb1.out 4; have cb1_5 := blk_cell Kb1.out 5; have cb1_6 := blk_cell Kb1.out 6; have cb1_7 := blk_cell Kb1.out 7; have cb1_8 := blk_cell Kb1.out 8; have cb1_9 := blk_cell Kb1.out 9; have cb1_10 := blk_cell Kb1.out 10; have cb1_11 := blk_cell Kb1.out 11; have cb1_12 := blk_cell Kb1.out 12; have cb1_13 := blk_cell Kb1.out 13; simp only [List.getElem?_toArray, List.getElem?_cons_zero, List.getElem?_cons_succ] at cb1_0 cb1_1 cb1_2 cb1_3 cb1_4 cb1_5 cb1_6 cb1_7 cb1_8 cb1_9 cb1_10 cb1_11 cb1_12 cb1_13
      go_wp2_with (first
        | ((with_reducible refine gate_dst (N := 8) rfl ?_); refine box_event ?hg (N := 8) ?hd (cs := #[.pointer none, .slice none 0 0, .int .i64 0, .int .i64 0, .int .i64 0, .int .i64 0, .int .i64 0, .int .i64 0, .int .i64 0, .int .i64 0, .int .i64 0, .int .i64 0, .int .i64 0, .bool false]) (t := 30) ?hr ?_; (case hd => rfl); (case hg => rfl); (case hr => first | (go_simp; done) | (go_simp; rfl)); intro b8 hb8 w8 Kb8 hb_; have Gb8 := Aside0.mk (by rw [hb8]; exact HB.out.size : W.heap.size ≤ b8); have Nb1_b8 := Aside0.mk (fun e => by have := blk_lt Kb1.out; omega : b1 ≠ b8); have Nb2_b8 := Aside0.mk (fun e => by have := blk_lt Kb2.out; omega : b2 ≠ b8); have Nb3_b8 := Aside0.mk (fun e => by have := blk_lt Kb3.out; omega : b3 ≠ b8); replace HV := Aside0.mk (Kd.V_elderC (base' := 0) HV.out hb_ hb8); replace HCO := Aside0.mk (HCO.out.below hb_); have GC8 := Aside0.mk (by have := blk_lt HCO.out.blk; omega : cb < w8.heap.size); replace HB := Aside0.mk (below_step HB.out hb_); clear hb8; replace Kb1 := Aside0.mk ((hb_.block _ (blk_lt Kb1.out)).trans Kb1.out); replace Kb2 := Aside0.mk ((hb_.block _ (blk_lt Kb2.out)).trans Kb2.out); replace Kb3 := Aside0.mk ((hb_.block _ (blk_lt Kb3.out)).trans Kb3.out); replace cb1_0 := pw_cell_below hb_ cb1_0; replace cb1_1 := pw_cell_below hb_ cb1_1; replace cb1_2 := pw_cell_below hb_ cb1_2; replace cb1_3 := pw_cell_below hb_ cb1_3; replace cb1_4 := pw_cell_below hb_ cb1_4; replace cb1_5 := pw_cell_below hb_ cb1_5; replace cb1_6 := pw_cell_below hb_ cb1_6; replace cb1_7 := pw_cell_below hb_ cb1_7; replace cb1_8 := pw_cell_below hb_ cb1_8; replace cb1_9 := pw_cell_below hb_ cb1_9; replace cb1_10 := pw_cell_below hb_ cb1_10; replace cb1_11 := pw_cell_below hb_ cb1_11; replace cb1_12 := pw_cell_below hb_ cb1_12; replace cb1_13 := pw_cell_below hb_ cb1_13; clear hb_; replace Kb8 := Aside0.mk Kb8)
        | (refine store_agg rfl 30 (.tmp 8) (.tmp 86) rfl rfl b8 #[.pointer (some ⟨cb, 0, none⟩), .slice Ah hs.length ch, .int .i64 p.r0, .int .i64 p.r1, .int .i64 p.r2, .int .i64 p.r3, .int .i64 p.r4, .int .i64 p.r5, .int .i64 p.r6, .int .i64 p.r7, .int .i64 p.r8, .int .i64 hour, .int .i64 floor, .bool sw] 30 _ rfl rfl Kb8.out size30 rfl (by simp [Value.oneCell']) ?_; intro w9 k_ g_; replace HB := Aside0.mk (HB.out.grown g_ HB.out.size (fun r e => by cases e; exact Gb8.out)); replace Kb1 := Aside0.mk (blk_grown Kb1.out g_ (fun e => by cases e; exact Nb1_b8.out rfl)); replace Kb2 := Aside0.mk (blk_grown Kb2.out g_ (fun e => by cases e; exact Nb2_b8.out rfl)); replace Kb3 := Aside0.mk (blk_grown Kb3.out g_ (fun e => by cases e; exact Nb3_b8.out rfl)); replace HCO := Aside0.mk (CatOwn.other HCO.out Kb8.out (by decide) (by decide) (by decide) g_); replace HV := Aside0.mk (Kd.V_grown HV.out g_ (fun j hj e => hj.2 (Option.some.inj e))); clear Kb8; have Kb8 := Aside0.mk k_; clear k_ g_ cb1_0 cb1_1 cb1_2 cb1_3 cb1_4 cb1_5 cb1_6 cb1_7 cb1_8 cb1_9 cb1_10 cb1_11 cb1_12 cb1_13)
        | fail)
      replace HV := Aside0.mk (Kd.V_drew HV.out)
      have hbd := (Below.refl w9.heap.size w9).drew
      replace HB := Aside0.mk (below_step HB.out hbd); replace Kb1 := Aside0.mk ((hbd.block _ (blk_lt Kb1.out)).trans Kb1.out); replace Kb2 := Aside0.mk ((hbd.block _ (blk_lt Kb2.out)).trans Kb2.out); replace Kb3 := Aside0.mk ((hbd.block _ (blk_lt Kb3.out)).trans Kb3.out); replace Kb8 := Aside0.mk ((hbd.block _ (blk_lt Kb8.out)).trans Kb8.out); replace HCO := Aside0.mk (HCO.out.below hbd); clear hbd
      refine start_ (n := 16) (S := fun w' => Aside0 (w'.heap[b8]? = some (.cells #[.pointer (some ⟨cb, 0, none⟩), .slice Ah hs.length ch, .int .i64 p.r0, .int .i64 p.r1, .int .i64 p.r2, .int .i64 p.r3, .int .i64 p.r4, .int .i64 p.r5, .int .i64 p.r6, .int .i64 p.r7, .int .i64 p.r8, .int .i64 hour, .int .i64 floor, .bool sw] 30 (0, 0))) ∧ Aside0 (w'.heap[b1]? = some (.cells #[.slice Al xs.length cl, .slice Ah hs.length ch, .int .i64 p.r0, .int .i64 p.r1, .int .i64 p.r2, .int .i64 p.r3, .int .i64 p.r4, .int .i64 p.r5, .int .i64 p.r6, .int .i64 p.r7, .int .i64 p.r8, .int .i64 hour, .int .i64 floor, .bool sw] 27 (0, 0)))) (ds := [14]) #[false, false, false, false, false, false, false, false, false, false, false, false, false, false, false, false] (by kernel_rfl) rfl rfl ⟨⟨Kb8.out⟩, ⟨Kb1.out⟩⟩ ?_
      intro hHeld
      generalize hw_ : w9.drew = w10 at *
      clear hw_
      refine take_ (i := 0) (N := some 87) (v := ?_) (a' := ?_) #[true, false, false, false, false, false, false, false, false, false, false, false, false, false, false, false] rfl rfl (by kernel_rfl) (fun _ _ _ h => h) (Or.inl ⟨by rfl, ?_⟩) hHeld ?_ ?_
      rotate_left
      · rintro w' ⟨s0, s1⟩
        have cb8_0 := blk_cell s0.out 0; simp only [List.getElem?_toArray, List.getElem?_cons_zero, List.getElem?_cons_succ] at cb8_0
        have cb8_1 := blk_cell s0.out 1; simp only [List.getElem?_toArray, List.getElem?_cons_zero, List.getElem?_cons_succ] at cb8_1
        have cb8_2 := blk_cell s0.out 2; simp only [List.getElem?_toArray, List.getElem?_cons_zero, List.getElem?_cons_succ] at cb8_2
        have cb8_3 := blk_cell s0.out 3; simp only [List.getElem?_toArray, List.getElem?_cons_zero, List.getElem?_cons_succ] at cb8_3
        have cb8_4 := blk_cell s0.out 4; simp only [List.getElem?_toArray, List.getElem?_cons_zero, List.getElem?_cons_succ] at cb8_4
        have cb8_5 := blk_cell s0.out 5; simp only [List.getElem?_toArray, List.getElem?_cons_zero, List.getElem?_cons_succ] at cb8_5
        have cb8_6 := blk_cell s0.out 6; simp only [List.getElem?_toArray, List.getElem?_cons_zero, List.getElem?_cons_succ] at cb8_6
        have cb8_7 := blk_cell s0.out 7; simp only [List.getElem?_toArray, List.getElem?_cons_zero, List.getElem?_cons_succ] at cb8_7
        have cb8_8 := blk_cell s0.out 8; simp only [List.getElem?_toArray, List.getElem?_cons_zero, List.getElem?_cons_succ] at cb8_8
        have cb8_9 := blk_cell s0.out 9; simp only [List.getElem?_toArray, List.getElem?_cons_zero, List.getElem?_cons_succ] at cb8_9
        have cb8_10 := blk_cell s0.out 10; simp only [List.getElem?_toArray, List.getElem?_cons_zero, List.getElem?_cons_succ] at cb8_10
        have cb8_11 := blk_cell s0.out 11; simp only [List.getElem?_toArray, List.getElem?_cons_zero, List.getElem?_cons_succ] at cb8_11
        have cb8_12 := blk_cell s0.out 12; simp only [List.getElem?_toArray, List.getElem?_cons_zero, List.getElem?_cons_succ] at cb8_12
        have cb8_13 := blk_cell s0.out 13; simp only [List.getElem?_toArray, List.getElem?_cons_zero, List.getElem?_cons_succ] at cb8_13
        go_simp
        with_reducible rfl
      rotate_left
      · simp only [Act.put, List.setIfInBounds_toArray, List.set_cons_zero, List.set_cons_succ, i64_w, i32_w]
        rfl
      refine pure_ (i := 1) (N := some 88) (v := ?_) (a' := ?_) #[true, true, false, false, false, false, false, false, false, false, false, false, false, false, false, false] rfl rfl (by kernel_rfl) (fun _ _ _ h => h) (Or.inl ⟨by rfl, ?_⟩) ?_ ?_
      rotate_left
      · intro w'
        go_simp
        with_reducible rfl
      rotate_left
      · simp only [Act.put, List.setIfInBounds_toArray, List.set_cons_zero, List.set_cons_succ, i64_w, i32_w]
        rfl
      refine pure_ (i := 2) (N := some 89) (v := ?_) (a' := ?_) #[true, true, true, false, false, false, false, false, false, false, false, false, false, false, false, false] rfl rfl (by kernel_rfl) (fun _ _ _ h => h) (Or.inl ⟨by rfl, ?_⟩) ?_ ?_
      rotate_left
      · intro w'
        go_simp
        with_reducible rfl
      rotate_left
      · simp only [Act.put, List.setIfInBounds_toArray, List.set_cons_zero, List.set_cons_succ, i64_w, i32_w]
        rfl
      refine take_ (i := 3) (N := some 90) (v := ?_) (a' := ?_) #[true, true, true, true, false, false, false, false, false, false, false, false, false, false, false, false] rfl rfl (by kernel_rfl) (fun _ _ _ h => h) (Or.inl ⟨by rfl, ?_⟩) hHeld ?_ ?_
      rotate_left
      · rintro w' ⟨s0, s1⟩
        have cb1_1 := blk_cell s1.out 1; simp only [List.getElem?_toArray, List.getElem?_cons_zero, List.getElem?_cons_succ] at cb1_1
        go_simp
        with_reducible rfl
      rotate_left
      · simp only [Act.put, List.setIfInBounds_toArray, List.set_cons_zero, List.set_cons_succ, i64_w, i32_w]
        rfl
      refine pure_ (i := 4) (N := some 91) (v := ?_) (a' := ?_) #[true, true, true, true, true, false, false, false, false, false, false, false, false, false, false, false] rfl rfl (by kernel_rfl) (fun _ _ _ h => h) (Or.inl ⟨by rfl, ?_⟩) ?_ ?_
      rotate_left
      · intro w'
        go_simp
        with_reducible rfl
      rotate_left
      · simp only [Act.put, List.setIfInBounds_toArray, List.set_cons_zero, List.set_cons_succ, i64_w, i32_w]
        rfl
      refine take_ (i := 5) (N := some 92) (v := ?_) (a' := ?_) #[true, true, true, true, true, true, false, false, false, false, false, false, false, false, false, false] rfl rfl (by kernel_rfl) (fun _ _ _ h => h) (Or.inl ⟨by rfl, ?_⟩) hHeld ?_ ?_
      rotate_left
      · rintro w' ⟨s0, s1⟩
        have cb1_2 := blk_cell s1.out 2; simp only [List.getElem?_toArray, List.getElem?_cons_zero, List.getElem?_cons_succ] at cb1_2
        have cb1_3 := blk_cell s1.out 3; simp only [List.getElem?_toArray, List.getElem?_cons_zero, List.getElem?_cons_succ] at cb1_3
        have cb1_4 := blk_cell s1.out 4; simp only [List.getElem?_toArray, List.getElem?_cons_zero, List.getElem?_cons_succ] at cb1_4
        have cb1_5 := blk_cell s1.out 5; simp only [List.getElem?_toArray, List.getElem?_cons_zero, List.getElem?_cons_succ] at cb1_5
        have cb1_6 := blk_cell s1.out 6; simp only [List.getElem?_toArray, List.getElem?_cons_zero, List.getElem?_cons_succ] at cb1_6
        have cb1_7 := blk_cell s1.out 7; simp only [List.getElem?_toArray, List.getElem?_cons_zero, List.getElem?_cons_succ] at cb1_7
        have cb1_8 := blk_cell s1.out 8; simp only [List.getElem?_toArray, List.getElem?_cons_zero, List.getElem?_cons_succ] at cb1_8
        have cb1_9 := blk_cell s1.out 9; simp only [List.getElem?_toArray, List.getElem?_cons_zero, List.getElem?_cons_succ] at cb1_9
        have cb1_10 := blk_cell s1.out 10; simp only [List.getElem?_toArray, List.getElem?_cons_zero, List.getElem?_cons_succ] at cb1_10
        go_simp
        with_reducible rfl
      rotate_left
      · simp only [Act.put, List.setIfInBounds_toArray, List.set_cons_zero, List.set_cons_succ, i64_w, i32_w]
        rfl
      refine pure_ (i := 6) (N := some 93) (v := ?_) (a' := ?_) #[true, true, true, true, true, true, true, false, false, false, false, false, false, false, false, false] rfl rfl (by kernel_rfl) (fun _ _ _ h => h) (Or.inl ⟨by rfl, ?_⟩) ?_ ?_
      rotate_left
      · intro w'
        go_simp
        with_reducible rfl
      rotate_left
      · simp only [Act.put, List.setIfInBounds_toArray, List.set_cons_zero, List.set_cons_succ, i64_w, i32_w]
        rfl
      refine take_ (i := 7) (N := some 94) (v := ?_) (a' := ?_) #[true, true, true, true, true, true, true, true, false, false, false, false, false, false, false, false] rfl rfl (by kernel_rfl) (fun _ _ _ h => h) (Or.inl ⟨by rfl, ?_⟩) hHeld ?_ ?_
      rotate_left
      · rintro w' ⟨s0, s1⟩
        have cb1_11 := blk_cell s1.out 11; simp only [List.getElem?_toArray, List.getElem?_cons_zero, List.getElem?_cons_succ] at cb1_11
        go_simp
        with_reducible rfl
      rotate_left
      · simp only [Act.put, List.setIfInBounds_toArray, List.set_cons_zero, List.set_cons_succ, i64_w, i32_w]
        rfl
      refine pure_ (i := 8) (N := some 95) (v := ?_) (a' := ?_) #[true, true, true, true, true, true, true, true, true, false, false, false, false, false, false, false] rfl rfl (by kernel_rfl) (fun _ _ _ h => h) (Or.inl ⟨by rfl, ?_⟩) ?_ ?_
      rotate_left
      · intro w'
        go_simp
        with_reducible rfl
      rotate_left
      · simp only [Act.put, List.setIfInBounds_toArray, List.set_cons_zero, List.set_cons_succ, i64_w, i32_w]
        rfl
      refine take_ (i := 9) (N := some 96) (v := ?_) (a' := ?_) #[true, true, true, true, true, true, true, true, true, true, false, false, false, false, false, false] rfl rfl (by kernel_rfl) (fun _ _ _ h => h) (Or.inl ⟨by rfl, ?_⟩) hHeld ?_ ?_
      rotate_left
      · rintro w' ⟨s0, s1⟩
        have cb1_12 := blk_cell s1.out 12; simp only [List.getElem?_toArray, List.getElem?_cons_zero, List.getElem?_cons_succ] at cb1_12
        go_simp
        with_reducible rfl
      rotate_left
      · simp only [Act.put, List.setIfInBounds_toArray, List.set_cons_zero, List.set_cons_succ, i64_w, i32_w]
        rfl
      refine pure_ (i := 10) (N := some 97) (v := ?_) (a' := ?_) #[true, true, true, true, true, true, true, true, true, true, true, false, false, false, false, false] rfl rfl (by kernel_rfl) (fun _ _ _ h => h) (Or.inl ⟨by rfl, ?_⟩) ?_ ?_
      rotate_left
      · intro w'
        go_simp
        with_reducible rfl
      rotate_left
      · simp only [Act.put, List.setIfInBounds_toArray, List.set_cons_zero, List.set_cons_succ, i64_w, i32_w]
        rfl
      refine take_ (i := 11) (N := some 98) (v := ?_) (a' := ?_) #[true, true, true, true, true, true, true, true, true, true, true, true, false, false, false, false] rfl rfl (by kernel_rfl) (fun _ _ _ h => h) (Or.inl ⟨by rfl, ?_⟩) hHeld ?_ ?_
      rotate_left
      · rintro w' ⟨s0, s1⟩
        have cb1_13 := blk_cell s1.out 13; simp only [List.getElem?_toArray, List.getElem?_cons_zero, List.getElem?_cons_succ] at cb1_13
        go_simp
        with_reducible rfl
      rotate_left
      · simp only [Act.put, List.setIfInBounds_toArray, List.set_cons_zero, List.set_cons_succ, i64_w, i32_w]
        rfl
      refine pure_ (i := 12) (N := some 99) (v := ?_) (a' := ?_) #[true, true, true, true, true, true, true, true, true, true, true, true, true, false, false, false] rfl rfl (by kernel_rfl) (fun _ _ _ h => h) (Or.inl ⟨by rfl, ?_⟩) ?_ ?_
      rotate_left
      · intro w'
        go_simp
        with_reducible rfl
      rotate_left
      · simp only [Act.put, List.setIfInBounds_toArray, List.set_cons_zero, List.set_cons_succ, i64_w, i32_w]
        rfl
      refine one_ (i := 13) (N := none) #[true, true, true, true, true, true, true, true, true, true, true, true, true, true, false, false] rfl rfl (by kernel_rfl) (by decide) (fun K hK => ?_)
      refine store_agg_step (by rfl) 30 (.tmp 2) (.tmp 87) rfl rfl b2 #[.pointer (some ⟨cb, 0, none⟩), .slice Ah hs.length ch, .int .i64 p.r0, .int .i64 p.r1, .int .i64 p.r2, .int .i64 p.r3, .int .i64 p.r4, .int .i64 p.r5, .int .i64 p.r6, .int .i64 p.r7, .int .i64 p.r8, .int .i64 hour, .int .i64 floor, .bool sw] 30 _ rfl rfl Kb2.out size30 rfl (by simp [Value.oneCell']) ?_
      intro w11 k_ g_
      have KC2 := Aside0.mk k_
      replace HB := Aside0.mk (HB.out.grown g_ HB.out.size (fun r e => by cases e; exact Gb2.out))
      replace Kb1 := Aside0.mk (blk_grown Kb1.out g_ (fun e => by cases e; exact Nb1_b2.out rfl))
      replace Kb3 := Aside0.mk (blk_grown Kb3.out g_ (fun e => by cases e; exact Nb2_b3.out rfl))
      replace Kb8 := Aside0.mk (blk_grown Kb8.out g_ (fun e => by cases e; exact Nb2_b8.out rfl))
      replace HCO := Aside0.mk (CatOwn.other HCO.out Kb2.out (by decide) (by decide) (by decide) g_)
      replace HV := Aside0.mk (Kd.V_grown HV.out g_ (fun j hj e => by have := hj.1; have := B2C.out; cases e; omega))
      clear k_ g_ Kb2
      refine hK.out _ _ ⟨⟨Kb8.out⟩, ⟨Kb1.out⟩⟩ (fun hHeld => ?_)
      refine last_ (i := 14) (N := none) #[true, true, true, true, true, true, true, true, true, true, true, true, true, true, true, false] rfl rfl (by kernel_rfl) (by decide) (fun K hK => ?_)
      refine store_agg_step (by rfl) 31 (.tmp 3) (.tmp 99) rfl rfl b3 #[.slice A0 l.length c0, .slice Ah hs.length ch, .int .i64 p.r0, .int .i64 p.r1, .int .i64 p.r2, .int .i64 p.r3, .int .i64 p.r4, .int .i64 p.r5, .int .i64 p.r6, .int .i64 p.r7, .int .i64 p.r8, .int .i64 hour, .int .i64 floor, .bool sw] 31 _ rfl rfl Kb3.out size31 rfl (by simp [Value.oneCell']) ?_
      intro w12 k_ g_
      have KC3 := Aside0.mk k_
      replace HB := Aside0.mk (HB.out.grown g_ HB.out.size (fun r e => by cases e; exact Gb3.out))
      replace KC2 := Aside0.mk (blk_grown KC2.out g_ (fun e => by cases e; exact Nb2_b3.out rfl))
      replace HCO := Aside0.mk (CatOwn.other HCO.out Kb3.out (by decide) (by decide) (by decide) g_)
      replace HV := Aside0.mk (Kd.V_grown HV.out g_ (fun j hj e => by have := hj.1; have := B3C.out; cases e; omega))
      clear k_ g_ Kb3 Kb1 Kb8
      refine hK.out _ _ ?_
      refine pure_ (i := 15) (N := some 4) (v := ?_) (a' := ?_) #[true, true, true, true, true, true, true, true, true, true, true, true, true, true, true, true] rfl rfl (by kernel_rfl) (fun _ _ _ h => h) (Or.inl ⟨by rfl, ?_⟩) ?_ ?_
      rotate_left
      · intro w'
        go_simp
        with_reducible rfl
      rotate_left
      · simp only [Act.put, List.setIfInBounds_toArray, List.set_cons_zero, List.set_cons_succ, i64_w, i32_w]
        rfl
      refine done_ (by kernel_rfl) ?_
      go_wp2
      obtain ⟨_, hc0, hVC⟩ := Kd.V_reads' HV.out
      obtain ⟨A9, c9, hCA⟩ := HCO.out.at_
      exact bodyPost_ret (results_cct rfl _ _ b2 b3 _ _ _ _ _ _ _ _ rfl KC2.out Tryz.underlying30 rfl size30 rfl KC3.out Tryz.underlying31 rfl size31) rfl
        ⟨cb, ob, A9, c9, l, A0, c0, by rw [List.length_map]; rfl, hCA, HG.out, by have := HLL.out; have := S1.out; omega, hVC, GCB.out, HB.out⟩
end Go.Proofs.YthhmfeiefbnhcaaGreat.Due
