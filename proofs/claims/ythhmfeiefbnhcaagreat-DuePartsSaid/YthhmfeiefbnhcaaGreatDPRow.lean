/-
  DueParts answers true whatever the world is, and its argument reads behind the call as it read before. Conditions: none.
-/
import Derived.Deep.Slices
import Derived.ChangeArms
import Derived.ProofKit
import Derived.Test.YthhmfeiefbnhcaaGreatRows
import Derived.WalkKit
import Derived.OpenShut
import Derived.ChangeOld
import Derived.Below
import Derived.SizedLaws
import Derived.Test.YthhmfeiefbnhcaaGreatDP9
namespace Go.Proofs.YthhmfeiefbnhcaaGreat.Due
open Go.RowKit Go.Proofs.YthhmfeiefbnhcaaGreat.PDueParts Go.Proofs.YthhmfeiefbnhcaaGreatW.PrintWords Go.Proofs.YthhmfeiefbnhcaaGreatW.PrintLast
set_option linter.unusedVariables false
set_option linter.unusedSimpArgs false
theorem good_wf {l : List S183} (h : GoodL l) : ∀ q ∈ l, in64 q.f1.f0.f0 ∧ in64 q.f1.f0.f1 := fun q hq => by
  obtain ⟨ht, h0, h1⟩ := right_t (h.right q hq)
  have : most q.f1.f0.f0 ≤ 16777216 := by unfold most; split <;> (try split) <;> (try split) <;> omega
  unfold in64
  omega
theorem cell_grown {w w1 : World} {b o : Nat} {v : Value} {g : Nat} (h : w.cell? ⟨b, o, none⟩ = some v) (hg : w.grownBy w1 (some g)) (hne : some b ≠ some g) : w1.cell? ⟨b, o, none⟩ = some v :=
  (World.cell?_of_block (hg.block b (World.block_lt_of_cell? w _ h) hne)).trans h
theorem gath_build {l : List S183} {p : Pol} {hour floor : Int} {cnt : List Int} {sw : Bool} {j : Job} (h : gathM l p hour floor cnt sw j) (hk : j.k = 2) : ∃ x, IsB l p hour x j.t j.i := by
  rcases h with ⟨q, hq, hj⟩ | ⟨x, hx, hb, _, rfl⟩ | ⟨_, rfl⟩
  · unfold entJ at hj
    split at hj
    · subst hj; cases hk
    · rcases hj with ⟨hb, _, rfl⟩ | ⟨_, rfl⟩
      · exact ⟨_, IsB.of hb⟩
      · cases hk
  · exact ⟨_, IsB.of hb⟩
  · cases hk
theorem listed_apart {l : List S183} {p : Pol} {hour floor : Int} {sw : Bool} {hs : List Int} {js : List Job} (hG : GoodL l) (hL : Listed l p hour floor sw hs js) {k q : Nat} (hk : k < js.length) (hq : q < k) (h1 : (js[k]).k = 2) (h2 : (js[q]'(by omega)).k = 2) : meetsP (js[k]).t (js[k]).i (js[q]'(by omega)).t (js[q]'(by omega)).i = false := by
  cases hm : meetsP (js[k]).t (js[k]).i (js[q]'(by omega)).t (js[q]'(by omega)).i
  · rfl
  · obtain ⟨x, hx⟩ := gath_build ((hL.all _).1 (List.getElem_mem hk)).2 h1
    obtain ⟨y, hy⟩ := gath_build ((hL.all _).1 (List.getElem_mem (show q < js.length by omega))).2 h2
    obtain ⟨e1, e2⟩ := build_one hG hx hy hm
    have : js[k] = js[q]'(by omega) := by
      generalize js[k] = a at *
      generalize js[q]'(by omega) = b at *
      cases a; cases b; simp at *; exact ⟨by omega, e1, e2⟩
    have := (List.getElem_inj hL.once).1 this
    omega
theorem listed_over {l : List S183} {p : Pol} {hour floor : Int} {sw : Bool} {hs : List Int} {js : List Job} (hG : GoodL l) (hL : Listed l p hour floor sw hs js) {k : Nat} (hk : k < js.length) (h1 : (js[k]).k = 2) {q : S183} (hq : q ∈ l) (hm : meetsP (js[k]).t (js[k]).i q.f1.f0.f0 q.f1.f0.f1 = true) : withinP q.f1.f0.f0 q.f1.f0.f1 (js[k]).t (js[k]).i = true := by
  obtain ⟨x, hx⟩ := gath_build ((hL.all _).1 (List.getElem_mem hk)).2 h1
  exact build_over hG hx hq hm
theorem at_R {w : World} {A : Option Addr} {n : Nat} {l : List S183} (h : Kd.C k43 w A n (l.map (·.f1))) (i : Nat) (h1 : i < l.length) : ∃ ad, A = some ad ∧ w.cell? (ad.add (i * 6)) = some (.int .i64 (l[i]).f1.f0.f0) ∧ w.cell? ⟨(ad.add (i * 6)).block, (ad.add (i * 6)).off + 1, none⟩ = some (.int .i64 (l[i]).f1.f0.f1) := by
  have hn : n = l.length := by have := h.1; simpa using this.symm
  obtain ⟨ad, hA, h2, h3, _⟩ := at_T43 h (i : Nat) (by omega) (by omega)
  have e : rd_T43 (l.map (·.f1)) (i : Nat) = (l[i]).f1 := by
    unfold rd_T43
    rw [Int.toNat_natCast, List.getD_eq_getElem?_getD, List.getElem?_map, List.getElem?_eq_getElem h1]; rfl
  rw [e, Int.toNat_natCast] at h2 h3
  exact ⟨ad, hA, h2, h3⟩
set_option maxRecDepth 100000 in
set_option maxHeartbeats 4000000 in
theorem parts_no (W : World) (Al : Option Addr) (cl : Nat) (xs : List S43) (Ah : Option Addr) (ch : Nat) (hs : List Int) (p : Pol) (hour floor : Int) (sw : Bool) (hxl : xs.length ≤ 9223372036854775807) (hhl : hs.length ≤ 9223372036854775807) (hno : ¬ Spoken xs hs p hour floor) :
    Calls Tryz.prog 3 #[.agg #[.slice Al xs.length cl, .slice Ah hs.length ch, .int .i64 p.r0, .int .i64 p.r1, .int .i64 p.r2, .int .i64 p.r3, .int .i64 p.r4, .int .i64 p.r5, .int .i64 p.r6, .int .i64 p.r7, .int .i64 p.r8, .int .i64 hour, .int .i64 floor, .bool sw]] W fun e w' => e = .returned (.bool true) ∧ Below W.heap.size W w' := by
  have HXL := Aside0.mk hxl
  have HHL := Aside0.mk hhl
  have HNO := Aside0.mk hno
  have HB := Aside0.mk (Below.refl W.heap.size W)
  clear hno hxl hhl
  go_enter Tryz.func3, Tryz.ntmps3
  go_wp2_with (first
        | ((with_reducible refine gate_dst (N := 1) rfl ?_); refine box_event ?hg (N := 1) ?hd (cs := #[.slice Al xs.length cl, .slice Ah hs.length ch, .int .i64 p.r0, .int .i64 p.r1, .int .i64 p.r2, .int .i64 p.r3, .int .i64 p.r4, .int .i64 p.r5, .int .i64 p.r6, .int .i64 p.r7, .int .i64 p.r8, .int .i64 hour, .int .i64 floor, .bool sw]) (t := 27) ?hr ?_; (case hd => rfl); (case hg => rfl); (case hr => first | (go_simp; done) | (go_simp; rfl)); intro b1 hb1 w1 Kb1 hb_; have Gb1 := Aside0.mk (by rw [hb1]; exact HB.out.size : W.heap.size ≤ b1); replace HB := Aside0.mk (below_step HB.out hb_); clear hb1; clear hb_; have cb1_0 := blk_cell Kb1 0; have cb1_1 := blk_cell Kb1 1; have cb1_2 := blk_cell Kb1 2; have cb1_3 := blk_cell Kb1 3; have cb1_4 := blk_cell Kb1 4; have cb1_5 := blk_cell Kb1 5; have cb1_6 := blk_cell Kb1 6; have cb1_7 := blk_cell Kb1 7; have cb1_8 := blk_cell Kb1 8; have cb1_9 := blk_cell Kb1 9; have cb1_10 := blk_cell Kb1 10; have cb1_11 := blk_cell Kb1 11; have cb1_12 := blk_cell Kb1 12; have cb1_13 := blk_cell Kb1 13; simp only [List.getElem?_toArray, List.getElem?_cons_zero, List.getElem?_cons_succ] at cb1_0 cb1_1 cb1_2 cb1_3 cb1_4 cb1_5 cb1_6 cb1_7 cb1_8 cb1_9 cb1_10 cb1_11 cb1_12 cb1_13; replace Kb1 := Aside0.mk Kb1)
        | (go_at_call 6; refine (made_no _ Al cl xs Ah ch hs p hour floor sw HXL.out HHL.out HNO.out).mono ?_; rintro e w2 ⟨rfl, hb_⟩; replace HB := Aside0.mk (below_step HB.out hb_); clear hb_; clear Kb1 cb1_0 cb1_1 cb1_2 cb1_3 cb1_4 cb1_5 cb1_6 cb1_7 cb1_8 cb1_9 cb1_10 cb1_11 cb1_12 cb1_13)
        | ((with_reducible refine gate_dst (N := 3) rfl ?_); refine box_event ?hg (N := 3) ?hd (cs := #[.pointer none, .slice none 0 0, .int .i64 0, .int .i64 0, .int .i64 0, .int .i64 0, .int .i64 0, .int .i64 0, .int .i64 0, .int .i64 0, .int .i64 0, .int .i64 0, .int .i64 0, .bool false]) (t := 30) ?hr ?_; (case hd => rfl); (case hg => rfl); (case hr => first | (go_simp; done) | (go_simp; rfl)); intro b3 hb3 w3 Kb3 hb_; have Gb3 := Aside0.mk (by rw [hb3]; exact HB.out.size : W.heap.size ≤ b3); replace HB := Aside0.mk (below_step HB.out hb_); clear hb3; clear hb_; replace Kb3 := Aside0.mk Kb3)
        | ((with_reducible refine gate_dst (N := 4) rfl ?_); refine box_event ?hg (N := 4) ?hd (cs := #[.slice none 0 0, .slice none 0 0, .int .i64 0, .int .i64 0, .int .i64 0, .int .i64 0, .int .i64 0, .int .i64 0, .int .i64 0, .int .i64 0, .int .i64 0, .int .i64 0, .int .i64 0, .bool false]) (t := 31) ?hr ?_; (case hd => rfl); (case hg => rfl); (case hr => first | (go_simp; done) | (go_simp; rfl)); intro b4 hb4 w4 Kb4 hb_; have Gb4 := Aside0.mk (by rw [hb4]; exact HB.out.size : W.heap.size ≤ b4); have Nb3_b4 := Aside0.mk (fun e => by have := blk_lt Kb3.out; omega : b3 ≠ b4); replace HB := Aside0.mk (below_step HB.out hb_); clear hb4; replace Kb3 := Aside0.mk ((hb_.block _ (blk_lt Kb3.out)).trans Kb3.out); clear hb_; replace Kb4 := Aside0.mk Kb4)
        | (refine store_agg rfl 30 (.tmp 3) (.tmp 17) rfl rfl b3 #[.pointer none, .slice none 0 0, .int .i64 0, .int .i64 0, .int .i64 0, .int .i64 0, .int .i64 0, .int .i64 0, .int .i64 0, .int .i64 0, .int .i64 0, .int .i64 0, .int .i64 0, .bool false] 30 _ rfl rfl Kb3.out size30 rfl (by simp [Value.oneCell']) ?_; intro w5 k_ g_; replace HB := Aside0.mk (HB.out.grown g_ HB.out.size (fun r e => by cases e; exact Gb3.out)); clear Kb3; replace Kb4 := Aside0.mk (blk_grown Kb4.out g_ (fun e => by cases e; exact Nb3_b4.out rfl)); have Kb3 := Aside0.mk k_; clear k_ g_)
        | (refine store_agg rfl 31 (.tmp 4) (.tmp 18) rfl rfl b4 #[.slice none 0 0, .slice none 0 0, .int .i64 0, .int .i64 0, .int .i64 0, .int .i64 0, .int .i64 0, .int .i64 0, .int .i64 0, .int .i64 0, .int .i64 0, .int .i64 0, .int .i64 0, .bool false] 31 _ rfl rfl Kb4.out size31 rfl (by simp [Value.oneCell']) ?_; intro w6 k_ g_; replace HB := Aside0.mk (HB.out.grown g_ HB.out.size (fun r e => by cases e; exact Gb4.out)); clear Kb4; have Kb4 := Aside0.mk k_; clear k_ g_)
        | (go_at_call 7; refine (alive_calls _).mono ?_; rintro e wA ⟨rfl, hb_⟩; replace HB := Aside0.mk (below_step HB.out hb_); clear hb_)
        | fail)
  go_ret
  exact ⟨rfl, HB.out⟩
set_option maxRecDepth 100000 in
set_option maxHeartbeats 16000000 in
theorem parts_yes (W : World) (Al : Option Addr) (cl : Nat) (xs : List S43) (Ah : Option Addr) (ch : Nat) (hs : List Int) (p : Pol) (hour floor : Int) (sw : Bool) (hX : Kd.C k43 W Al xs.length xs) (hcl : xs.length ≤ cl) (hclm : cl ≤ maxLen) (hH : Kd.C (Kd.int .i64) W Ah hs.length hs) (hn : Ah = none → ch = 0) (hsp : Spoken xs hs p hour floor) :
    Calls Tryz.prog 3 #[.agg #[.slice Al xs.length cl, .slice Ah hs.length ch, .int .i64 p.r0, .int .i64 p.r1, .int .i64 p.r2, .int .i64 p.r3, .int .i64 p.r4, .int .i64 p.r5, .int .i64 p.r6, .int .i64 p.r7, .int .i64 p.r8, .int .i64 hour, .int .i64 floor, .bool sw]] W fun e w' => e = .returned (.bool true) ∧ Below W.heap.size W w' := by
  have HXS := Aside0.mk hX
  have HCL := Aside0.mk hcl
  have HCM := Aside0.mk hclm
  have HHS := Aside0.mk hH
  have HN := Aside0.mk hn
  have HSP := Aside0.mk hsp
  have HB := Aside0.mk (Below.refl W.heap.size W)
  clear hX hcl hclm hH hn hsp
  go_enter Tryz.func3, Tryz.ntmps3
  go_wp2_with (first
        | ((with_reducible refine gate_dst (N := 1) rfl ?_); refine box_event ?hg (N := 1) ?hd (cs := #[.slice Al xs.length cl, .slice Ah hs.length ch, .int .i64 p.r0, .int .i64 p.r1, .int .i64 p.r2, .int .i64 p.r3, .int .i64 p.r4, .int .i64 p.r5, .int .i64 p.r6, .int .i64 p.r7, .int .i64 p.r8, .int .i64 hour, .int .i64 floor, .bool sw]) (t := 27) ?hr ?_; (case hd => rfl); (case hg => rfl); (case hr => first | (go_simp; done) | (go_simp; rfl)); intro b1 hb1 w1 Kb1 hb_; have Gb1 := Aside0.mk (by rw [hb1]; exact HB.out.size : W.heap.size ≤ b1); replace HB := Aside0.mk (below_step HB.out hb_); clear hb1; clear hb_; have cb1_0 := blk_cell Kb1 0; have cb1_1 := blk_cell Kb1 1; have cb1_2 := blk_cell Kb1 2; have cb1_3 := blk_cell Kb1 3; have cb1_4 := blk_cell Kb1 4; have cb1_5 := blk_cell Kb1 5; have cb1_6 := blk_cell Kb1 6; have cb1_7 := blk_cell Kb1 7; have cb1_8 := blk_cell Kb1 8; have cb1_9 := blk_cell Kb1 9; have cb1_10 := blk_cell Kb1 10; have cb1_11 := blk_cell Kb1 11; have cb1_12 := blk_cell Kb1 12; have cb1_13 := blk_cell Kb1 13; simp only [List.getElem?_toArray, List.getElem?_cons_zero, List.getElem?_cons_succ] at cb1_0 cb1_1 cb1_2 cb1_3 cb1_4 cb1_5 cb1_6 cb1_7 cb1_8 cb1_9 cb1_10 cb1_11 cb1_12 cb1_13; replace Kb1 := Aside0.mk Kb1)
        | (go_at_call 6; refine (made_yes _ Al cl xs Ah ch hs p hour floor sw (Kd.C_below HXS.out HB.out) HCL.out HCM.out HSP.out).mono ?_; rintro e w2 ⟨cb, ob, A, c, l, Ar, cr, rfl, hCA, hG, hll, hCR, _, hb_⟩; have HCA := Aside0.mk hCA; have HG := Aside0.mk hG; have HLL := Aside0.mk hll; have HCR := Aside0.mk hCR; clear hCA hG hll hCR; replace HB := Aside0.mk (below_step HB.out hb_); clear hb_; clear Kb1 cb1_0 cb1_1 cb1_2 cb1_3 cb1_4 cb1_5 cb1_6 cb1_7 cb1_8 cb1_9 cb1_10 cb1_11 cb1_12 cb1_13; have HBW := HB; clear HB; have HB := Aside0.mk (Below.refl w2.heap.size w2))
        | ((with_reducible refine gate_dst (N := 3) rfl ?_); refine box_event ?hg (N := 3) ?hd (cs := #[.pointer none, .slice none 0 0, .int .i64 0, .int .i64 0, .int .i64 0, .int .i64 0, .int .i64 0, .int .i64 0, .int .i64 0, .int .i64 0, .int .i64 0, .int .i64 0, .int .i64 0, .bool false]) (t := 30) ?hr ?_; (case hd => rfl); (case hg => rfl); (case hr => first | (go_simp; done) | (go_simp; rfl)); intro b3 hb3 w3 Kb3 hb_; have Gb3 := Aside0.mk (by rw [hb3]; exact HB.out.size : w2.heap.size ≤ b3); replace HB := Aside0.mk (below_step HB.out hb_); clear hb3; clear hb_; replace Kb3 := Aside0.mk Kb3)
        | ((with_reducible refine gate_dst (N := 4) rfl ?_); refine box_event ?hg (N := 4) ?hd (cs := #[.slice none 0 0, .slice none 0 0, .int .i64 0, .int .i64 0, .int .i64 0, .int .i64 0, .int .i64 0, .int .i64 0, .int .i64 0, .int .i64 0, .int .i64 0, .int .i64 0, .int .i64 0, .bool false]) (t := 31) ?hr ?_; (case hd => rfl); (case hg => rfl); (case hr => first | (go_simp; done) | (go_simp; rfl)); intro b4 hb4 w4 Kb4 hb_; have Gb4 := Aside0.mk (by rw [hb4]; exact HB.out.size : w2.heap.size ≤ b4); have Nb3_b4 := Aside0.mk (fun e => by have := blk_lt Kb3.out; omega : b3 ≠ b4); replace HB := Aside0.mk (below_step HB.out hb_); clear hb4; replace Kb3 := Aside0.mk ((hb_.block _ (blk_lt Kb3.out)).trans Kb3.out); clear hb_; replace Kb4 := Aside0.mk Kb4)
        | (refine store_agg rfl 30 (.tmp 3) (.tmp 17) rfl rfl b3 #[.pointer (some ⟨cb, 0, none⟩), .slice Ah hs.length ch, .int .i64 p.r0, .int .i64 p.r1, .int .i64 p.r2, .int .i64 p.r3, .int .i64 p.r4, .int .i64 p.r5, .int .i64 p.r6, .int .i64 p.r7, .int .i64 p.r8, .int .i64 hour, .int .i64 floor, .bool sw] 30 _ rfl rfl Kb3.out size30 rfl (by simp [Value.oneCell']) ?_; intro w5 k_ g_; replace HB := Aside0.mk (HB.out.grown g_ HB.out.size (fun r e => by cases e; exact Gb3.out)); clear Kb3; replace Kb4 := Aside0.mk (blk_grown Kb4.out g_ (fun e => by cases e; exact Nb3_b4.out rfl)); have Kb3 := Aside0.mk k_; clear k_ g_)
        | (refine store_agg rfl 31 (.tmp 4) (.tmp 18) rfl rfl b4 #[.slice Ar l.length cr, .slice Ah hs.length ch, .int .i64 p.r0, .int .i64 p.r1, .int .i64 p.r2, .int .i64 p.r3, .int .i64 p.r4, .int .i64 p.r5, .int .i64 p.r6, .int .i64 p.r7, .int .i64 p.r8, .int .i64 hour, .int .i64 floor, .bool sw] 31 _ rfl rfl Kb4.out size31 rfl (by simp [Value.oneCell']) ?_; intro w6 k_ g_; replace HB := Aside0.mk (HB.out.grown g_ HB.out.size (fun r e => by cases e; exact Gb4.out)); clear Kb4; replace Kb3 := Aside0.mk (blk_grown Kb3.out g_ (fun e => by cases e; exact Nb3_b4.out rfl)); have Kb4 := Aside0.mk k_; clear k_ g_; have cb3_0 := blk_cell Kb3.out 0; have cb3_1 := blk_cell Kb3.out 1; have cb3_2 := blk_cell Kb3.out 2; have cb3_3 := blk_cell Kb3.out 3; have cb3_4 := blk_cell Kb3.out 4; have cb3_5 := blk_cell Kb3.out 5; have cb3_6 := blk_cell Kb3.out 6; have cb3_7 := blk_cell Kb3.out 7; have cb3_8 := blk_cell Kb3.out 8; have cb3_9 := blk_cell Kb3.out 9; have cb3_10 := blk_cell Kb3.out 10; have cb3_11 := blk_cell Kb3.out 11; have cb3_12 := blk_cell Kb3.out 12; have cb3_13 := blk_cell Kb3.out 13; simp only [List.getElem?_toArray, List.getElem?_cons_zero, List.getElem?_cons_succ] at cb3_0 cb3_1 cb3_2 cb3_3 cb3_4 cb3_5 cb3_6 cb3_7 cb3_8 cb3_9 cb3_10 cb3_11 cb3_12 cb3_13)
        | (go_at_call 8; refine (needed_calls _ cb ob A c l Ah hs.length ch p hour floor sw hs (HCA.out.below HB.out) HG.out.rising (by have := HLL.out; omega) HSP.out.2.2.1 ⟨HSP.out.2.2.2.1, HSP.out.2.2.2.2.1⟩ (good_wf HG.out) (Kd.C_below (Kd.C_below HHS.out HBW.out) HB.out) (by have := HSP.out.2.1; omega) HN.out).mono ?_; rintro e w7 ⟨Aj, cj, js, rfl, hL, hCJ, hb_⟩; have HL := Aside0.mk hL; have HCJ := Aside0.mk hCJ; clear hL hCJ cb3_0 cb3_1 cb3_2 cb3_3 cb3_4 cb3_5 cb3_6 cb3_7 cb3_8 cb3_9 cb3_10 cb3_11 cb3_12 cb3_13; replace HB := Aside0.mk (below_step HB.out hb_); replace Kb3 := Aside0.mk ((hb_.block _ (blk_lt Kb3.out)).trans Kb3.out); replace Kb4 := Aside0.mk ((hb_.block _ (blk_lt Kb4.out)).trans Kb4.out); clear hb_)
        | fail)
  have HB7 := HB
  have HJL := Aside0.mk HL.out.few
  clear HB
  go_loopw [7] (fun i wr => ∃ k : Nat, k ≤ js.length ∧ i = .int .i64 k ∧ Aside0 (Below w7.heap.size w7 wr))
    (fun i _ => js.length - (intOf i).toNat)
  case atStart => exact ⟨0, Nat.zero_le _, rfl, ⟨Below.refl _ _⟩⟩
  case round =>
    obtain ⟨k, hk, rfl, HB⟩ := hrel
    by_cases hlt : k < js.length
    · have hkb : (k : Int) < 9223372036854775807 := by have := HJL.out; omega
      obtain ⟨x, hx⟩ : ∃ x, js[k] = x := ⟨_, rfl⟩
      have HXK := Aside0.mk hx
      by_cases hk2 : x.k = 2
      case neg =>
        have hk2a : (x.k == 2) = false := by simpa using hk2
        have hk2b : (x.k != 2) = true := by simpa using hk2
        obtain ⟨ad, hA, h0, h1, h2, h3, h4⟩ := at_A (Kd.C_below HCJ.out HB.out) k hlt
        rw [hx] at h0 h1 h2
        subst hA
        clear hx hk2 h1 h2 h3 h4
        go_wp2
        go_roundw
        case rel => exact ⟨k + 1, by omega, by go_num, HB⟩
        case measure => simp [intOf]; omega
      case pos =>
        have HK2 := Aside0.mk hk2
        have hka : k < js.length := hlt
        obtain ⟨ad, hA, h0, h1, h2, h3, h4⟩ := at_A (Kd.C_below HCJ.out HB.out) k hlt
        rw [hx, hk2] at h0
        rw [hx] at h1 h2
        have HA := Aside0.mk hA
        subst hA
        clear hx hk2 h1 h2 h3 h4
        go_wp2
        obtain ⟨wo, rfl⟩ : ∃ wo : World, wo = wr := ⟨_, rfl⟩
        go_loopw [8] (fun i w8 => ∃ q : Nat, q ≤ k ∧ i = .int .i64 q ∧ Aside0 (Below w7.heap.size w7 w8)) (fun i _ => k - (intOf i).toNat)
        case atStart => exact ⟨0, Nat.zero_le _, rfl, HB⟩
        case round =>
          clear HB h0
          obtain ⟨q, hq, rfl, HB⟩ := hrel
          by_cases hql : q < k
          · have hqb : (q : Int) < 9223372036854775807 := by omega
            have hqj : q < js.length := by omega
            obtain ⟨y, hy⟩ : ∃ y, js[q] = y := ⟨_, rfl⟩
            obtain ⟨ad1, hA1, a0, a1, a2, _, _⟩ := at_A (Kd.C_below HCJ.out HB.out) q hqj
            obtain rfl := Option.some.inj hA1
            obtain ⟨ad2, hA2, c0, c1, c2, _, _⟩ := at_A (Kd.C_below HCJ.out HB.out) k hlt
            obtain rfl := Option.some.inj hA2
            rw [hy] at a0 a1 a2
            rw [HXK.out] at c1 c2
            clear hA1 hA2 c0
            by_cases hy2 : y.k = 2
            case neg =>
              have hy2a : (y.k == 2) = false := by simpa using hy2
              clear hy hy2 a1 a2 c1 c2
              go_wp2
              go_quiet (fail)
              replace HB := Aside0.mk (pw_below_drewN HB.out nq)
              generalize wr.drewN nq = w9 at *
              go_wp2
              go_roundw
              case rel => exact ⟨q + 1, by omega, by go_num, HB⟩
              case measure => simp [intOf]; omega
            case pos =>
              have HMF := Aside0.mk (show meetsP x.t x.i y.t y.i = false by
                have := listed_apart HG.out HL.out hlt hql (by rw [HXK.out]; exact HK2.out) (by rw [hy]; exact hy2)
                rwa [HXK.out, hy] at this)
              rw [hy2] at a0
              clear hy hy2
              go_wp2
              replace HB := Aside0.mk (below_drew HB.out)
              refine start_ (n := 19) (S := fun w' => w'.cell? (ad.add (q * 5)) = some (.int .i64 2) ∧ w'.cell? ⟨(ad.add (k * 5)).block, (ad.add (k * 5)).off + 1, none⟩ = some (.int .i64 x.t) ∧ w'.cell? ⟨(ad.add (k * 5)).block, (ad.add (k * 5)).off + 2, none⟩ = some (.int .i64 x.i) ∧ w'.cell? ⟨(ad.add (q * 5)).block, (ad.add (q * 5)).off + 1, none⟩ = some (.int .i64 y.t) ∧ w'.cell? ⟨(ad.add (q * 5)).block, (ad.add (q * 5)).off + 2, none⟩ = some (.int .i64 y.i)) (ds := []) #[false, false, false, false, false, false, false, false, false, false, false, false, false, false, false, false, false, false, false] (by kernel_rfl) rfl rfl ⟨a0, c1, c2, a1, a2⟩ ?_
              intro hHeld
              clear a0 a1 a2 c1 c2
              generalize wr.drew = w9 at *
              refine pure_ (i := 0) (N := some 42) (v := ?_) (a' := ?_) #[true, false, false, false, false, false, false, false, false, false, false, false, false, false, false, false, false, false, false] rfl rfl (by kernel_rfl) (fun _ _ _ h => h) (Or.inl ⟨by rfl, ?_⟩) ?_ ?_
              rotate_left
              · intro w'
                go_simp
                with_reducible rfl
              rotate_left
              · simp only [Act.put, List.setIfInBounds_toArray, List.set_cons_zero, List.set_cons_succ, i64_w, i32_w]
                rfl
              refine pure_ (i := 1) (N := some 43) (v := ?_) (a' := ?_) #[true, true, false, false, false, false, false, false, false, false, false, false, false, false, false, false, false, false, false] rfl rfl (by kernel_rfl) (fun _ _ _ h => h) (Or.inl ⟨by rfl, ?_⟩) ?_ ?_
              rotate_left
              · intro w'
                go_simp
                with_reducible rfl
              rotate_left
              · simp only [Act.put, List.setIfInBounds_toArray, List.set_cons_zero, List.set_cons_succ, i64_w, i32_w]
                rfl
              refine pure_ (i := 2) (N := some 44) (v := ?_) (a' := ?_) #[true, true, true, false, false, false, false, false, false, false, false, false, false, false, false, false, false, false, false] rfl rfl (by kernel_rfl) (fun _ _ _ h => h) (Or.inl ⟨by rfl, ?_⟩) ?_ ?_
              rotate_left
              · intro w'
                go_simp
                with_reducible rfl
              rotate_left
              · simp only [Act.put, List.setIfInBounds_toArray, List.set_cons_zero, List.set_cons_succ, i64_w, i32_w]
                rfl
              refine pure_ (i := 3) (N := some 45) (v := ?_) (a' := ?_) #[true, true, true, true, false, false, false, false, false, false, false, false, false, false, false, false, false, false, false] rfl rfl (by kernel_rfl) (fun _ _ _ h => h) (Or.inl ⟨by rfl, ?_⟩) ?_ ?_
              rotate_left
              · intro w'
                go_simp
                with_reducible rfl
              rotate_left
              · simp only [Act.put, List.setIfInBounds_toArray, List.set_cons_zero, List.set_cons_succ, i64_w, i32_w]
                rfl
              refine take_ (i := 4) (N := some 46) (v := ?_) (a' := ?_) #[true, true, true, true, true, false, false, false, false, false, false, false, false, false, false, false, false, false, false] rfl rfl (by kernel_rfl) (fun _ _ _ h => h) (Or.inl ⟨by rfl, ?_⟩) hHeld ?_ ?_
              rotate_left
              · rintro w' ⟨s0, s1, s2, s3, s4⟩
                go_simp
                with_reducible rfl
              rotate_left
              · simp only [Act.put, List.setIfInBounds_toArray, List.set_cons_zero, List.set_cons_succ, i64_w, i32_w]
                rfl
              refine pure_ (i := 5) (N := some 47) (v := ?_) (a' := ?_) #[true, true, true, true, true, true, false, false, false, false, false, false, false, false, false, false, false, false, false] rfl rfl (by kernel_rfl) (fun _ _ _ h => h) (Or.inl ⟨by rfl, ?_⟩) ?_ ?_
              rotate_left
              · intro w'
                go_simp
                with_reducible rfl
              rotate_left
              · simp only [Act.put, List.setIfInBounds_toArray, List.set_cons_zero, List.set_cons_succ, i64_w, i32_w]
                rfl
              refine pure_ (i := 6) (N := some 48) (v := ?_) (a' := ?_) #[true, true, true, true, true, true, true, false, false, false, false, false, false, false, false, false, false, false, false] rfl rfl (by kernel_rfl) (fun _ _ _ h => h) (Or.inl ⟨by rfl, ?_⟩) ?_ ?_
              rotate_left
              · intro w'
                go_simp
                with_reducible rfl
              rotate_left
              · simp only [Act.put, List.setIfInBounds_toArray, List.set_cons_zero, List.set_cons_succ, i64_w, i32_w]
                rfl
              refine pure_ (i := 7) (N := some 49) (v := ?_) (a' := ?_) #[true, true, true, true, true, true, true, true, false, false, false, false, false, false, false, false, false, false, false] rfl rfl (by kernel_rfl) (fun _ _ _ h => h) (Or.inl ⟨by rfl, ?_⟩) ?_ ?_
              rotate_left
              · intro w'
                go_simp
                with_reducible rfl
              rotate_left
              · simp only [Act.put, List.setIfInBounds_toArray, List.set_cons_zero, List.set_cons_succ, i64_w, i32_w]
                rfl
              refine pure_ (i := 8) (N := some 50) (v := ?_) (a' := ?_) #[true, true, true, true, true, true, true, true, true, false, false, false, false, false, false, false, false, false, false] rfl rfl (by kernel_rfl) (fun _ _ _ h => h) (Or.inl ⟨by rfl, ?_⟩) ?_ ?_
              rotate_left
              · intro w'
                go_simp
                with_reducible rfl
              rotate_left
              · simp only [Act.put, List.setIfInBounds_toArray, List.set_cons_zero, List.set_cons_succ, i64_w, i32_w]
                rfl
              refine pure_ (i := 9) (N := some 51) (v := ?_) (a' := ?_) #[true, true, true, true, true, true, true, true, true, true, false, false, false, false, false, false, false, false, false] rfl rfl (by kernel_rfl) (fun _ _ _ h => h) (Or.inl ⟨by rfl, ?_⟩) ?_ ?_
              rotate_left
              · intro w'
                go_simp
                with_reducible rfl
              rotate_left
              · simp only [Act.put, List.setIfInBounds_toArray, List.set_cons_zero, List.set_cons_succ, i64_w, i32_w]
                rfl
              refine pure_ (i := 10) (N := some 52) (v := ?_) (a' := ?_) #[true, true, true, true, true, true, true, true, true, true, true, false, false, false, false, false, false, false, false] rfl rfl (by kernel_rfl) (fun _ _ _ h => h) (Or.inl ⟨by rfl, ?_⟩) ?_ ?_
              rotate_left
              · intro w'
                go_simp
                with_reducible rfl
              rotate_left
              · simp only [Act.put, List.setIfInBounds_toArray, List.set_cons_zero, List.set_cons_succ, i64_w, i32_w]
                rfl
              refine take_ (i := 11) (N := some 53) (v := ?_) (a' := ?_) #[true, true, true, true, true, true, true, true, true, true, true, true, false, false, false, false, false, false, false] rfl rfl (by kernel_rfl) (fun _ _ _ h => h) (Or.inl ⟨by rfl, ?_⟩) hHeld ?_ ?_
              rotate_left
              · rintro w' ⟨s0, s1, s2, s3, s4⟩
                go_simp
                with_reducible rfl
              rotate_left
              · simp only [Act.put, List.setIfInBounds_toArray, List.set_cons_zero, List.set_cons_succ, i64_w, i32_w]
                rfl
              refine pure_ (i := 12) (N := some 54) (v := ?_) (a' := ?_) #[true, true, true, true, true, true, true, true, true, true, true, true, true, false, false, false, false, false, false] rfl rfl (by kernel_rfl) (fun _ _ _ h => h) (Or.inl ⟨by rfl, ?_⟩) ?_ ?_
              rotate_left
              · intro w'
                go_simp
                with_reducible rfl
              rotate_left
              · simp only [Act.put, List.setIfInBounds_toArray, List.set_cons_zero, List.set_cons_succ, i64_w, i32_w]
                rfl
              refine pure_ (i := 13) (N := some 55) (v := ?_) (a' := ?_) #[true, true, true, true, true, true, true, true, true, true, true, true, true, true, false, false, false, false, false] rfl rfl (by kernel_rfl) (fun _ _ _ h => h) (Or.inl ⟨by rfl, ?_⟩) ?_ ?_
              rotate_left
              · intro w'
                go_simp
                with_reducible rfl
              rotate_left
              · simp only [Act.put, List.setIfInBounds_toArray, List.set_cons_zero, List.set_cons_succ, i64_w, i32_w]
                rfl
              refine pure_ (i := 14) (N := some 56) (v := ?_) (a' := ?_) #[true, true, true, true, true, true, true, true, true, true, true, true, true, true, true, false, false, false, false] rfl rfl (by kernel_rfl) (fun _ _ _ h => h) (Or.inl ⟨by rfl, ?_⟩) ?_ ?_
              rotate_left
              · intro w'
                go_simp
                with_reducible rfl
              rotate_left
              · simp only [Act.put, List.setIfInBounds_toArray, List.set_cons_zero, List.set_cons_succ, i64_w, i32_w]
                rfl
              refine pure_ (i := 15) (N := some 57) (v := ?_) (a' := ?_) #[true, true, true, true, true, true, true, true, true, true, true, true, true, true, true, true, false, false, false] rfl rfl (by kernel_rfl) (fun _ _ _ h => h) (Or.inl ⟨by rfl, ?_⟩) ?_ ?_
              rotate_left
              · intro w'
                go_simp
                with_reducible rfl
              rotate_left
              · simp only [Act.put, List.setIfInBounds_toArray, List.set_cons_zero, List.set_cons_succ, i64_w, i32_w]
                rfl
              refine take_ (i := 16) (N := some 58) (v := ?_) (a' := ?_) #[true, true, true, true, true, true, true, true, true, true, true, true, true, true, true, true, true, false, false] rfl rfl (by kernel_rfl) (fun _ _ _ h => h) (Or.inl ⟨by rfl, ?_⟩) hHeld ?_ ?_
              rotate_left
              · rintro w' ⟨s0, s1, s2, s3, s4⟩
                go_simp
                with_reducible rfl
              rotate_left
              · simp only [Act.put, List.setIfInBounds_toArray, List.set_cons_zero, List.set_cons_succ, i64_w, i32_w]
                rfl
              refine one_ (i := 17) (N := some 59) #[true, true, true, true, true, true, true, true, true, true, true, true, true, true, true, true, true, true, false] rfl rfl (by kernel_rfl) (by decide) (fun K hK => ?_)
              refine goes_ Tryz.func9 (by kernel_rfl) rfl #[.agg #[.int .i64 x.t, .int .i64 x.i], .agg #[.int .i64 y.t, .int .i64 y.i]] (by rfl) rfl rfl (by go_simp) ?_
              refine (meets_calls w9 x.t x.i y.t y.i).mono ?_
              rintro e w10 ⟨rfl, hb_⟩
              refine ⟨_, rfl, ?_⟩
              obtain ⟨s0, s1, s2, s3, s4⟩ := hHeld
              refine hK.out _ _ ⟨pw_cell_below hb_ s0, pw_cell_below hb_ s1, pw_cell_below hb_ s2, pw_cell_below hb_ s3, pw_cell_below hb_ s4⟩ (fun hHeld => ?_)
              replace HB := Aside0.mk (below_step HB.out hb_)
              clear s0 s1 s2 s3 s4 hb_
              rw [HMF.out]
              refine pure_ (i := 18) (N := some 60) (v := ?_) (a' := ?_) #[true, true, true, true, true, true, true, true, true, true, true, true, true, true, true, true, true, true, true] rfl rfl (by kernel_rfl) (fun _ _ _ h => h) (Or.inl ⟨by rfl, ?_⟩) ?_ ?_
              rotate_left
              · intro w'
                go_simp
                with_reducible rfl
              rotate_left
              · simp only [Act.put, List.setIfInBounds_toArray, List.set_cons_zero, List.set_cons_succ, i64_w, i32_w]
                rfl
              refine done_ (by kernel_rfl) ?_
              clear hHeld
              go_wp2
              go_roundw
              case rel => exact ⟨q + 1, by omega, by go_num, HB⟩
              case measure => simp [intOf]; omega
          · obtain rfl : k = q := by omega
            have cb4_0 : wr.cell? ⟨b4, 0, none⟩ = some (.slice Ar l.length cr) := (blk_cell ((HB.out.block b4 (blk_lt Kb4.out)).trans Kb4.out) 0).trans rfl
            clear hql hq
            go_wp2
            obtain ⟨wo2, rfl⟩ : ∃ wo2 : World, wo2 = wr := ⟨_, rfl⟩
            go_loopw [9] (fun i w8 => ∃ q : Nat, q ≤ l.length ∧ i = .int .i64 q ∧ Aside0 (Below w7.heap.size w7 w8)) (fun i _ => l.length - (intOf i).toNat)
            case atStart => exact ⟨0, Nat.zero_le _, rfl, HB⟩
            case round =>
              clear HB cb4_0
              obtain ⟨q, hq, rfl, HB⟩ := hrel
              have cb4_0 : wr.cell? ⟨b4, 0, none⟩ = some (.slice Ar l.length cr) := (blk_cell ((HB.out.block b4 (blk_lt Kb4.out)).trans Kb4.out) 0).trans rfl
              have hlb : (l.length : Int) ≤ 40 := by have := HLL.out; omega
              by_cases hql : q < l.length
              · have hqb : (q : Int) < 9223372036854775807 := by omega
                obtain ⟨y, hy⟩ : ∃ y, l[q] = y := ⟨_, rfl⟩
                obtain ⟨ae, hAe, a0, a1⟩ := at_R (Kd.C_below HCR.out (HB7.out.trans (HB.out.mono HB7.out.size))) q hql
                subst hAe
                obtain ⟨ad2, hA2, c0, c1, c2, _, _⟩ := at_A (Kd.C_below HCJ.out HB.out) k hlt
                obtain rfl := Option.some.inj hA2
                rw [hy] at a0 a1
                rw [HXK.out] at c1 c2
                have HYM := Aside0.mk (show y ∈ l by rw [← hy]; exact List.getElem_mem hql)
                clear hA2 c0 hy
                go_wp2
                replace HB := Aside0.mk (below_drew HB.out)
                refine start_ (n := 27) (S := fun w' => w'.cell? ⟨(ad.add (k * 5)).block, (ad.add (k * 5)).off + 1, none⟩ = some (.int .i64 x.t) ∧ w'.cell? ⟨(ad.add (k * 5)).block, (ad.add (k * 5)).off + 2, none⟩ = some (.int .i64 x.i) ∧ w'.cell? ⟨b4, 0, none⟩ = some (.slice (some ae) l.length cr) ∧ w'.cell? (ae.add (q * 6)) = some (.int .i64 y.f1.f0.f0) ∧ w'.cell? ⟨(ae.add (q * 6)).block, (ae.add (q * 6)).off + 1, none⟩ = some (.int .i64 y.f1.f0.f1)) (ds := []) #[false, false, false, false, false, false, false, false, false, false, false, false, false, false, false, false, false, false, false, false, false, false, false, false, false, false, false] (by kernel_rfl) rfl rfl ⟨c1, c2, cb4_0, a0, a1⟩ ?_
                intro hHeld
                clear a0 a1 c1 c2 cb4_0
                generalize wr.drew = w9 at *
                refine pure_ (i := 0) (N := some 68) (v := ?_) (a' := ?_) #[true, false, false, false, false, false, false, false, false, false, false, false, false, false, false, false, false, false, false, false, false, false, false, false, false, false, false] rfl rfl (by kernel_rfl) (fun _ _ _ h => h) (Or.inl ⟨by rfl, ?_⟩) ?_ ?_
                rotate_left
                · intro w'
                  go_simp
                  with_reducible rfl
                rotate_left
                · simp only [Act.put, List.setIfInBounds_toArray, List.set_cons_zero, List.set_cons_succ, i64_w, i32_w]
                  rfl
                refine pure_ (i := 1) (N := some 69) (v := ?_) (a' := ?_) #[true, true, false, false, false, false, false, false, false, false, false, false, false, false, false, false, false, false, false, false, false, false, false, false, false, false, false] rfl rfl (by kernel_rfl) (fun _ _ _ h => h) (Or.inl ⟨by rfl, ?_⟩) ?_ ?_
                rotate_left
                · intro w'
                  go_simp
                  with_reducible rfl
                rotate_left
                · simp only [Act.put, List.setIfInBounds_toArray, List.set_cons_zero, List.set_cons_succ, i64_w, i32_w]
                  rfl
                refine pure_ (i := 2) (N := some 70) (v := ?_) (a' := ?_) #[true, true, true, false, false, false, false, false, false, false, false, false, false, false, false, false, false, false, false, false, false, false, false, false, false, false, false] rfl rfl (by kernel_rfl) (fun _ _ _ h => h) (Or.inl ⟨by rfl, ?_⟩) ?_ ?_
                rotate_left
                · intro w'
                  go_simp
                  with_reducible rfl
                rotate_left
                · simp only [Act.put, List.setIfInBounds_toArray, List.set_cons_zero, List.set_cons_succ, i64_w, i32_w]
                  rfl
                refine pure_ (i := 3) (N := some 71) (v := ?_) (a' := ?_) #[true, true, true, true, false, false, false, false, false, false, false, false, false, false, false, false, false, false, false, false, false, false, false, false, false, false, false] rfl rfl (by kernel_rfl) (fun _ _ _ h => h) (Or.inl ⟨by rfl, ?_⟩) ?_ ?_
                rotate_left
                · intro w'
                  go_simp
                  with_reducible rfl
                rotate_left
                · simp only [Act.put, List.setIfInBounds_toArray, List.set_cons_zero, List.set_cons_succ, i64_w, i32_w]
                  rfl
                refine take_ (i := 4) (N := some 72) (v := ?_) (a' := ?_) #[true, true, true, true, true, false, false, false, false, false, false, false, false, false, false, false, false, false, false, false, false, false, false, false, false, false, false] rfl rfl (by kernel_rfl) (fun _ _ _ h => h) (Or.inl ⟨by rfl, ?_⟩) hHeld ?_ ?_
                rotate_left
                · rintro w' ⟨s0, s1, s2, s3, s4⟩
                  go_simp
                  with_reducible rfl
                rotate_left
                · simp only [Act.put, List.setIfInBounds_toArray, List.set_cons_zero, List.set_cons_succ, i64_w, i32_w]
                  rfl
                refine pure_ (i := 5) (N := some 73) (v := ?_) (a' := ?_) #[true, true, true, true, true, true, false, false, false, false, false, false, false, false, false, false, false, false, false, false, false, false, false, false, false, false, false] rfl rfl (by kernel_rfl) (fun _ _ _ h => h) (Or.inl ⟨by rfl, ?_⟩) ?_ ?_
                rotate_left
                · intro w'
                  go_simp
                  with_reducible rfl
                rotate_left
                · simp only [Act.put, List.setIfInBounds_toArray, List.set_cons_zero, List.set_cons_succ, i64_w, i32_w]
                  rfl
                refine take_ (i := 6) (N := some 74) (v := ?_) (a' := ?_) #[true, true, true, true, true, true, true, false, false, false, false, false, false, false, false, false, false, false, false, false, false, false, false, false, false, false, false] rfl rfl (by kernel_rfl) (fun _ _ _ h => h) (Or.inl ⟨by rfl, ?_⟩) hHeld ?_ ?_
                rotate_left
                · rintro w' ⟨s0, s1, s2, s3, s4⟩
                  go_simp
                  with_reducible rfl
                rotate_left
                · simp only [Act.put, List.setIfInBounds_toArray, List.set_cons_zero, List.set_cons_succ, i64_w, i32_w]
                  rfl
                refine pure_ (i := 7) (N := some 75) (v := ?_) (a' := ?_) #[true, true, true, true, true, true, true, true, false, false, false, false, false, false, false, false, false, false, false, false, false, false, false, false, false, false, false] rfl rfl (by kernel_rfl) (fun _ _ _ h => h) (Or.inl ⟨by rfl, ?_⟩) ?_ ?_
                rotate_left
                · intro w'
                  go_simp
                  with_reducible rfl
                rotate_left
                · simp only [Act.put, List.setIfInBounds_toArray, List.set_cons_zero, List.set_cons_succ, i64_w, i32_w]
                  rfl
                refine pure_ (i := 8) (N := some 76) (v := ?_) (a' := ?_) #[true, true, true, true, true, true, true, true, true, false, false, false, false, false, false, false, false, false, false, false, false, false, false, false, false, false, false] rfl rfl (by kernel_rfl) (fun _ _ _ h => h) (Or.inl ⟨by rfl, ?_⟩) ?_ ?_
                rotate_left
                · intro w'
                  go_simp
                  with_reducible rfl
                rotate_left
                · simp only [Act.put, List.setIfInBounds_toArray, List.set_cons_zero, List.set_cons_succ, i64_w, i32_w]
                  rfl
                refine pure_ (i := 9) (N := some 77) (v := ?_) (a' := ?_) #[true, true, true, true, true, true, true, true, true, true, false, false, false, false, false, false, false, false, false, false, false, false, false, false, false, false, false] rfl rfl (by kernel_rfl) (fun _ _ _ h => h) (Or.inl ⟨by rfl, ?_⟩) ?_ ?_
                rotate_left
                · intro w'
                  go_simp
                  with_reducible rfl
                rotate_left
                · simp only [Act.put, List.setIfInBounds_toArray, List.set_cons_zero, List.set_cons_succ, i64_w, i32_w]
                  rfl
                refine take_ (i := 10) (N := some 78) (v := ?_) (a' := ?_) #[true, true, true, true, true, true, true, true, true, true, true, false, false, false, false, false, false, false, false, false, false, false, false, false, false, false, false] rfl rfl (by kernel_rfl) (fun _ _ _ h => h) (Or.inl ⟨by rfl, ?_⟩) hHeld ?_ ?_
                rotate_left
                · rintro w' ⟨s0, s1, s2, s3, s4⟩
                  go_simp
                  with_reducible rfl
                rotate_left
                · simp only [Act.put, List.setIfInBounds_toArray, List.set_cons_zero, List.set_cons_succ, i64_w, i32_w]
                  rfl
                refine one_ (i := 11) (N := some 79) #[true, true, true, true, true, true, true, true, true, true, true, true, false, false, false, false, false, false, false, false, false, false, false, false, false, false, false] rfl rfl (by kernel_rfl) (by decide) (fun K hK => ?_)
                refine goes_ Tryz.func9 (by kernel_rfl) rfl #[.agg #[.int .i64 x.t, .int .i64 x.i], .agg #[.int .i64 y.f1.f0.f0, .int .i64 y.f1.f0.f1]] (by rfl) rfl rfl (by go_simp) ?_
                refine (meets_calls w9 x.t x.i y.f1.f0.f0 y.f1.f0.f1).mono ?_
                rintro e w10 ⟨rfl, hb_⟩
                refine ⟨_, rfl, ?_⟩
                obtain ⟨s0, s1, s2, s3, s4⟩ := hHeld
                refine hK.out _ _ ⟨pw_cell_below hb_ s0, pw_cell_below hb_ s1, pw_cell_below hb_ s2, pw_cell_below hb_ s3, pw_cell_below hb_ s4⟩ (fun hHeld => ?_)
                replace HB := Aside0.mk (below_step HB.out hb_)
                clear s0 s1 s2 s3 s4 hb_
                cases hm : meetsP x.t x.i y.f1.f0.f0 y.f1.f0.f1
                case false =>
                  clear hm
                  refine pure_ (i := 12) (N := some 80) (v := ?_) (a' := ?_) #[true, true, true, true, true, true, true, true, true, true, true, true, true, false, false, false, false, false, false, false, false, false, false, false, false, false, false] rfl rfl (by kernel_rfl) (fun _ _ _ h => h) (Or.inl ⟨by rfl, ?_⟩) ?_ ?_
                  rotate_left
                  · intro w'
                    go_simp
                    with_reducible rfl
                  rotate_left
                  · simp only [Act.put, List.setIfInBounds_toArray, List.set_cons_zero, List.set_cons_succ, i64_w, i32_w]
                    rfl
                  refine pure_ (i := 13) (N := some 81) (v := undef) #[true, true, true, true, true, true, true, true, true, true, true, true, true, true, false, false, false, false, false, false, false, false, false, false, false, false, false] rfl rfl (by kernel_rfl) (fun _ _ _ h => h) (Or.inr ⟨by rfl, rfl⟩) rfl ?_
                  simp only [Act.put, List.setIfInBounds_toArray, List.set_cons_zero, List.set_cons_succ]
                  refine pure_ (i := 14) (N := some 82) (v := undef) #[true, true, true, true, true, true, true, true, true, true, true, true, true, true, true, false, false, false, false, false, false, false, false, false, false, false, false] rfl rfl (by kernel_rfl) (fun _ _ _ h => h) (Or.inr ⟨by rfl, rfl⟩) rfl ?_
                  simp only [Act.put, List.setIfInBounds_toArray, List.set_cons_zero, List.set_cons_succ]
                  refine pure_ (i := 15) (N := some 83) (v := undef) #[true, true, true, true, true, true, true, true, true, true, true, true, true, true, true, true, false, false, false, false, false, false, false, false, false, false, false] rfl rfl (by kernel_rfl) (fun _ _ _ h => h) (Or.inr ⟨by rfl, rfl⟩) rfl ?_
                  simp only [Act.put, List.setIfInBounds_toArray, List.set_cons_zero, List.set_cons_succ]
                  refine pure_ (i := 16) (N := some 84) (v := undef) #[true, true, true, true, true, true, true, true, true, true, true, true, true, true, true, true, true, false, false, false, false, false, false, false, false, false, false] rfl rfl (by kernel_rfl) (fun _ _ _ h => h) (Or.inr ⟨by rfl, rfl⟩) rfl ?_
                  simp only [Act.put, List.setIfInBounds_toArray, List.set_cons_zero, List.set_cons_succ]
                  refine pure_ (i := 17) (N := some 85) (v := undef) #[true, true, true, true, true, true, true, true, true, true, true, true, true, true, true, true, true, true, false, false, false, false, false, false, false, false, false] rfl rfl (by kernel_rfl) (fun _ _ _ h => h) (Or.inr ⟨by rfl, rfl⟩) rfl ?_
                  simp only [Act.put, List.setIfInBounds_toArray, List.set_cons_zero, List.set_cons_succ]
                  refine pure_ (i := 18) (N := some 86) (v := undef) #[true, true, true, true, true, true, true, true, true, true, true, true, true, true, true, true, true, true, true, false, false, false, false, false, false, false, false] rfl rfl (by kernel_rfl) (fun _ _ _ h => h) (Or.inr ⟨by rfl, rfl⟩) rfl ?_
                  simp only [Act.put, List.setIfInBounds_toArray, List.set_cons_zero, List.set_cons_succ]
                  refine pure_ (i := 19) (N := some 87) (v := undef) #[true, true, true, true, true, true, true, true, true, true, true, true, true, true, true, true, true, true, true, true, false, false, false, false, false, false, false] rfl rfl (by kernel_rfl) (fun _ _ _ h => h) (Or.inr ⟨by rfl, rfl⟩) rfl ?_
                  simp only [Act.put, List.setIfInBounds_toArray, List.set_cons_zero, List.set_cons_succ]
                  refine pure_ (i := 20) (N := some 88) (v := undef) #[true, true, true, true, true, true, true, true, true, true, true, true, true, true, true, true, true, true, true, true, true, false, false, false, false, false, false] rfl rfl (by kernel_rfl) (fun _ _ _ h => h) (Or.inr ⟨by rfl, rfl⟩) rfl ?_
                  simp only [Act.put, List.setIfInBounds_toArray, List.set_cons_zero, List.set_cons_succ]
                  refine pure_ (i := 21) (N := some 89) (v := undef) #[true, true, true, true, true, true, true, true, true, true, true, true, true, true, true, true, true, true, true, true, true, true, false, false, false, false, false] rfl rfl (by kernel_rfl) (fun _ _ _ h => h) (Or.inr ⟨by rfl, rfl⟩) rfl ?_
                  simp only [Act.put, List.setIfInBounds_toArray, List.set_cons_zero, List.set_cons_succ]
                  refine pure_ (i := 22) (N := some 90) (v := undef) #[true, true, true, true, true, true, true, true, true, true, true, true, true, true, true, true, true, true, true, true, true, true, true, false, false, false, false] rfl rfl (by kernel_rfl) (fun _ _ _ h => h) (Or.inr ⟨by rfl, rfl⟩) rfl ?_
                  simp only [Act.put, List.setIfInBounds_toArray, List.set_cons_zero, List.set_cons_succ]
                  refine pure_ (i := 23) (N := some 91) (v := undef) #[true, true, true, true, true, true, true, true, true, true, true, true, true, true, true, true, true, true, true, true, true, true, true, true, false, false, false] rfl rfl (by kernel_rfl) (fun _ _ _ h => h) (Or.inr ⟨by rfl, rfl⟩) rfl ?_
                  simp only [Act.put, List.setIfInBounds_toArray, List.set_cons_zero, List.set_cons_succ]
                  refine pure_ (i := 24) (N := some 92) (v := undef) #[true, true, true, true, true, true, true, true, true, true, true, true, true, true, true, true, true, true, true, true, true, true, true, true, true, false, false] rfl rfl (by kernel_rfl) (fun _ _ _ h => h) (Or.inr ⟨by rfl, rfl⟩) rfl ?_
                  simp only [Act.put, List.setIfInBounds_toArray, List.set_cons_zero, List.set_cons_succ]
                  refine pure_ (i := 25) (N := some 93) (v := undef) #[true, true, true, true, true, true, true, true, true, true, true, true, true, true, true, true, true, true, true, true, true, true, true, true, true, true, false] rfl rfl (by kernel_rfl) (fun _ _ _ h => h) (Or.inr ⟨by rfl, rfl⟩) rfl ?_
                  simp only [Act.put, List.setIfInBounds_toArray, List.set_cons_zero, List.set_cons_succ]
                  refine pure_ (i := 26) (N := some 94) (v := ?_) (a' := ?_) #[true, true, true, true, true, true, true, true, true, true, true, true, true, true, true, true, true, true, true, true, true, true, true, true, true, true, true] rfl rfl (by kernel_rfl) (fun _ _ _ h => h) (Or.inl ⟨by rfl, ?_⟩) ?_ ?_
                  rotate_left
                  · intro w'
                    go_simp
                    with_reducible rfl
                  rotate_left
                  · simp only [Act.put, List.setIfInBounds_toArray, List.set_cons_zero, List.set_cons_succ, i64_w, i32_w]
                    rfl
                  refine done_ (by kernel_rfl) ?_
                  clear hHeld
                  go_wp2
                  go_roundw
                  case rel => exact ⟨q + 1, by omega, by go_num, HB⟩
                  case measure => simp [intOf]; omega
                case true =>
                  have HWI := Aside0.mk (show withinP y.f1.f0.f0 y.f1.f0.f1 x.t x.i = true by
                    have := listed_over HG.out HL.out hlt (by rw [HXK.out]; exact HK2.out) HYM.out (by rw [HXK.out]; exact hm)
                    rwa [HXK.out] at this)
                  clear hm
                  refine pure_ (i := 12) (N := some 80) (v := ?_) (a' := ?_) #[true, true, true, true, true, true, true, true, true, true, true, true, true, false, false, false, false, false, false, false, false, false, false, false, false, false, false] rfl rfl (by kernel_rfl) (fun _ _ _ h => h) (Or.inl ⟨by rfl, ?_⟩) ?_ ?_
                  rotate_left
                  · intro w'
                    go_simp
                    with_reducible rfl
                  rotate_left
                  · simp only [Act.put, List.setIfInBounds_toArray, List.set_cons_zero, List.set_cons_succ, i64_w, i32_w]
                    rfl
                  refine pure_ (i := 13) (N := some 81) (v := ?_) (a' := ?_) #[true, true, true, true, true, true, true, true, true, true, true, true, true, true, false, false, false, false, false, false, false, false, false, false, false, false, false] rfl rfl (by kernel_rfl) (fun _ _ _ h => h) (Or.inl ⟨by rfl, ?_⟩) ?_ ?_
                  rotate_left
                  · intro w'
                    go_simp
                    with_reducible rfl
                  rotate_left
                  · simp only [Act.put, List.setIfInBounds_toArray, List.set_cons_zero, List.set_cons_succ, i64_w, i32_w]
                    rfl
                  refine take_ (i := 14) (N := some 82) (v := ?_) (a' := ?_) #[true, true, true, true, true, true, true, true, true, true, true, true, true, true, true, false, false, false, false, false, false, false, false, false, false, false, false] rfl rfl (by kernel_rfl) (fun _ _ _ h => h) (Or.inl ⟨by rfl, ?_⟩) hHeld ?_ ?_
                  rotate_left
                  · rintro w' ⟨s0, s1, s2, s3, s4⟩
                    go_simp
                    with_reducible rfl
                  rotate_left
                  · simp only [Act.put, List.setIfInBounds_toArray, List.set_cons_zero, List.set_cons_succ, i64_w, i32_w]
                    rfl
                  refine pure_ (i := 15) (N := some 83) (v := ?_) (a' := ?_) #[true, true, true, true, true, true, true, true, true, true, true, true, true, true, true, true, false, false, false, false, false, false, false, false, false, false, false] rfl rfl (by kernel_rfl) (fun _ _ _ h => h) (Or.inl ⟨by rfl, ?_⟩) ?_ ?_
                  rotate_left
                  · intro w'
                    go_simp
                    with_reducible rfl
                  rotate_left
                  · simp only [Act.put, List.setIfInBounds_toArray, List.set_cons_zero, List.set_cons_succ, i64_w, i32_w]
                    rfl
                  refine pure_ (i := 16) (N := some 84) (v := ?_) (a' := ?_) #[true, true, true, true, true, true, true, true, true, true, true, true, true, true, true, true, true, false, false, false, false, false, false, false, false, false, false] rfl rfl (by kernel_rfl) (fun _ _ _ h => h) (Or.inl ⟨by rfl, ?_⟩) ?_ ?_
                  rotate_left
                  · intro w'
                    go_simp
                    with_reducible rfl
                  rotate_left
                  · simp only [Act.put, List.setIfInBounds_toArray, List.set_cons_zero, List.set_cons_succ, i64_w, i32_w]
                    rfl
                  refine pure_ (i := 17) (N := some 85) (v := ?_) (a' := ?_) #[true, true, true, true, true, true, true, true, true, true, true, true, true, true, true, true, true, true, false, false, false, false, false, false, false, false, false] rfl rfl (by kernel_rfl) (fun _ _ _ h => h) (Or.inl ⟨by rfl, ?_⟩) ?_ ?_
                  rotate_left
                  · intro w'
                    go_simp
                    with_reducible rfl
                  rotate_left
                  · simp only [Act.put, List.setIfInBounds_toArray, List.set_cons_zero, List.set_cons_succ, i64_w, i32_w]
                    rfl
                  refine take_ (i := 18) (N := some 86) (v := ?_) (a' := ?_) #[true, true, true, true, true, true, true, true, true, true, true, true, true, true, true, true, true, true, true, false, false, false, false, false, false, false, false] rfl rfl (by kernel_rfl) (fun _ _ _ h => h) (Or.inl ⟨by rfl, ?_⟩) hHeld ?_ ?_
                  rotate_left
                  · rintro w' ⟨s0, s1, s2, s3, s4⟩
                    go_simp
                    with_reducible rfl
                  rotate_left
                  · simp only [Act.put, List.setIfInBounds_toArray, List.set_cons_zero, List.set_cons_succ, i64_w, i32_w]
                    rfl
                  refine pure_ (i := 19) (N := some 87) (v := ?_) (a' := ?_) #[true, true, true, true, true, true, true, true, true, true, true, true, true, true, true, true, true, true, true, true, false, false, false, false, false, false, false] rfl rfl (by kernel_rfl) (fun _ _ _ h => h) (Or.inl ⟨by rfl, ?_⟩) ?_ ?_
                  rotate_left
                  · intro w'
                    go_simp
                    with_reducible rfl
                  rotate_left
                  · simp only [Act.put, List.setIfInBounds_toArray, List.set_cons_zero, List.set_cons_succ, i64_w, i32_w]
                    rfl
                  refine pure_ (i := 20) (N := some 88) (v := ?_) (a' := ?_) #[true, true, true, true, true, true, true, true, true, true, true, true, true, true, true, true, true, true, true, true, true, false, false, false, false, false, false] rfl rfl (by kernel_rfl) (fun _ _ _ h => h) (Or.inl ⟨by rfl, ?_⟩) ?_ ?_
                  rotate_left
                  · intro w'
                    go_simp
                    with_reducible rfl
                  rotate_left
                  · simp only [Act.put, List.setIfInBounds_toArray, List.set_cons_zero, List.set_cons_succ, i64_w, i32_w]
                    rfl
                  refine pure_ (i := 21) (N := some 89) (v := ?_) (a' := ?_) #[true, true, true, true, true, true, true, true, true, true, true, true, true, true, true, true, true, true, true, true, true, true, false, false, false, false, false] rfl rfl (by kernel_rfl) (fun _ _ _ h => h) (Or.inl ⟨by rfl, ?_⟩) ?_ ?_
                  rotate_left
                  · intro w'
                    go_simp
                    with_reducible rfl
                  rotate_left
                  · simp only [Act.put, List.setIfInBounds_toArray, List.set_cons_zero, List.set_cons_succ, i64_w, i32_w]
                    rfl
                  refine pure_ (i := 22) (N := some 90) (v := ?_) (a' := ?_) #[true, true, true, true, true, true, true, true, true, true, true, true, true, true, true, true, true, true, true, true, true, true, true, false, false, false, false] rfl rfl (by kernel_rfl) (fun _ _ _ h => h) (Or.inl ⟨by rfl, ?_⟩) ?_ ?_
                  rotate_left
                  · intro w'
                    go_simp
                    with_reducible rfl
                  rotate_left
                  · simp only [Act.put, List.setIfInBounds_toArray, List.set_cons_zero, List.set_cons_succ, i64_w, i32_w]
                    rfl
                  refine take_ (i := 23) (N := some 91) (v := ?_) (a' := ?_) #[true, true, true, true, true, true, true, true, true, true, true, true, true, true, true, true, true, true, true, true, true, true, true, true, false, false, false] rfl rfl (by kernel_rfl) (fun _ _ _ h => h) (Or.inl ⟨by rfl, ?_⟩) hHeld ?_ ?_
                  rotate_left
                  · rintro w' ⟨s0, s1, s2, s3, s4⟩
                    go_simp
                    with_reducible rfl
                  rotate_left
                  · simp only [Act.put, List.setIfInBounds_toArray, List.set_cons_zero, List.set_cons_succ, i64_w, i32_w]
                    rfl
                  refine one_ (i := 24) (N := some 92) #[true, true, true, true, true, true, true, true, true, true, true, true, true, true, true, true, true, true, true, true, true, true, true, true, true, false, false] rfl rfl (by kernel_rfl) (by decide) (fun K hK => ?_)
                  refine goes_ Tryz.func10 (by kernel_rfl) rfl #[.agg #[.int .i64 y.f1.f0.f0, .int .i64 y.f1.f0.f1], .agg #[.int .i64 x.t, .int .i64 x.i]] (by rfl) rfl rfl (by go_simp) ?_
                  refine (within_calls w10 y.f1.f0.f0 y.f1.f0.f1 x.t x.i).mono ?_
                  rintro e w11 ⟨rfl, hb_⟩
                  refine ⟨_, rfl, ?_⟩
                  obtain ⟨s0, s1, s2, s3, s4⟩ := hHeld
                  refine hK.out _ _ ⟨pw_cell_below hb_ s0, pw_cell_below hb_ s1, pw_cell_below hb_ s2, pw_cell_below hb_ s3, pw_cell_below hb_ s4⟩ (fun hHeld => ?_)
                  replace HB := Aside0.mk (below_step HB.out hb_)
                  clear s0 s1 s2 s3 s4 hb_
                  rw [HWI.out]
                  refine pure_ (i := 25) (N := some 93) (v := ?_) (a' := ?_) #[true, true, true, true, true, true, true, true, true, true, true, true, true, true, true, true, true, true, true, true, true, true, true, true, true, true, false] rfl rfl (by kernel_rfl) (fun _ _ _ h => h) (Or.inl ⟨by rfl, ?_⟩) ?_ ?_
                  rotate_left
                  · intro w'
                    go_simp
                    with_reducible rfl
                  rotate_left
                  · simp only [Act.put, List.setIfInBounds_toArray, List.set_cons_zero, List.set_cons_succ, i64_w, i32_w]
                    rfl
                  refine pure_ (i := 26) (N := some 94) (v := ?_) (a' := ?_) #[true, true, true, true, true, true, true, true, true, true, true, true, true, true, true, true, true, true, true, true, true, true, true, true, true, true, true] rfl rfl (by kernel_rfl) (fun _ _ _ h => h) (Or.inl ⟨by rfl, ?_⟩) ?_ ?_
                  rotate_left
                  · intro w'
                    go_simp
                    with_reducible rfl
                  rotate_left
                  · simp only [Act.put, List.setIfInBounds_toArray, List.set_cons_zero, List.set_cons_succ, i64_w, i32_w]
                    rfl
                  refine done_ (by kernel_rfl) ?_
                  clear hHeld
                  go_wp2
                  go_roundw
                  case rel => exact ⟨q + 1, by omega, by go_num, HB⟩
                  case measure => simp [intOf]; omega
              · obtain rfl : l.length = q := by omega
                clear hql hq
                go_wp2
                go_roundw
                case rel => exact ⟨k + 1, by omega, by go_num, HB⟩
                case measure => simp [intOf]; omega
    · obtain rfl : k = js.length := by omega
      clear hlt hk
      go_wp2
      obtain ⟨wo, rfl⟩ : ∃ wo : World, wo = wr := ⟨_, rfl⟩
      go_loopw [10] (fun i w8 => ∃ q : Nat, q ≤ hs.length ∧ i = .int .i64 q ∧ Aside0 (Below w7.heap.size w7 w8)) (fun i _ => hs.length - (intOf i).toNat)
      case atStart => exact ⟨0, Nat.zero_le _, rfl, HB⟩
      case round =>
        clear HB
        obtain ⟨q, hq, rfl, HB⟩ := hrel
        replace Kb3 := Aside0.mk ((HB.out.block b3 (blk_lt Kb3.out)).trans Kb3.out)
        have cb3_0 := blk_cell Kb3.out 0; have cb3_1 := blk_cell Kb3.out 1; have cb3_2 := blk_cell Kb3.out 2; have cb3_3 := blk_cell Kb3.out 3; have cb3_4 := blk_cell Kb3.out 4; have cb3_5 := blk_cell Kb3.out 5; have cb3_6 := blk_cell Kb3.out 6; have cb3_7 := blk_cell Kb3.out 7; have cb3_8 := blk_cell Kb3.out 8; have cb3_9 := blk_cell Kb3.out 9; have cb3_10 := blk_cell Kb3.out 10; have cb3_11 := blk_cell Kb3.out 11; have cb3_12 := blk_cell Kb3.out 12; have cb3_13 := blk_cell Kb3.out 13; simp only [List.getElem?_toArray, List.getElem?_cons_zero, List.getElem?_cons_succ] at cb3_0 cb3_1 cb3_2 cb3_3 cb3_4 cb3_5 cb3_6 cb3_7 cb3_8 cb3_9 cb3_10 cb3_11 cb3_12 cb3_13
        have hhb : (hs.length : Int) ≤ 40 := by have := HSP.out.2.1; omega
        by_cases hql : q < hs.length
        · have hqb : (q : Int) < 9223372036854775807 := by omega
          obtain ⟨x, hx⟩ : ∃ x, hs[q] = x := ⟨_, rfl⟩
          obtain ⟨ah, hAh, a0⟩ := int_cell (Kd.C_below (Kd.C_below HHS.out HBW.out) (HB7.out.trans (HB.out.mono HB7.out.size))) q hql
          rw [hx] at a0
          have HXM := Aside0.mk (show x ∈ hs by rw [← hx]; exact List.getElem_mem hql)
          subst hAh
          clear hx
          by_cases hf : x < floor
          · go_wp2
            go_roundw
            case rel => exact ⟨q + 1, by omega, by go_num, HB⟩
            case measure => simp [intOf]; omega
          · by_cases hz : bestP p x hour = 0
            · have HZ := Aside0.mk hz
              clear hz
              go_wp2_with (first
        | (go_at_call 11; refine (best_calls _ p x hour HSP.out.2.2.1 ⟨HSP.out.2.2.2.1, HSP.out.2.2.2.2.1⟩).mono ?_; rintro e w11 ⟨rfl, hb_⟩; replace HB := Aside0.mk (below_step HB.out hb_); replace Kb3 := Aside0.mk ((hb_.block _ (blk_lt Kb3.out)).trans Kb3.out); replace cb3_0 := pw_cell_below hb_ cb3_0; replace cb3_1 := pw_cell_below hb_ cb3_1; replace cb3_2 := pw_cell_below hb_ cb3_2; replace cb3_3 := pw_cell_below hb_ cb3_3; replace cb3_4 := pw_cell_below hb_ cb3_4; replace cb3_5 := pw_cell_below hb_ cb3_5; replace cb3_6 := pw_cell_below hb_ cb3_6; replace cb3_7 := pw_cell_below hb_ cb3_7; replace cb3_8 := pw_cell_below hb_ cb3_8; replace cb3_9 := pw_cell_below hb_ cb3_9; replace cb3_10 := pw_cell_below hb_ cb3_10; replace cb3_11 := pw_cell_below hb_ cb3_11; replace cb3_12 := pw_cell_below hb_ cb3_12; replace cb3_13 := pw_cell_below hb_ cb3_13; clear hb_; rw [HZ.out])
        | fail)
              go_roundw
              case rel => exact ⟨q + 1, by omega, by go_num, HB⟩
              case measure => simp [intOf]; omega
            · have hza : (bestP p x hour == 0) = false := by simpa using hz
              obtain ⟨tb, th, tp⟩ := due_has HG.out hz
              have HTB := Aside0.mk tb
              have HHAS := Aside0.mk th
              have HGM := Aside0.mk (show gathM l p hour floor (hs.filter fun x => !decide (x < floor)) sw ⟨2, tgtT l p hour x, tgtI l p hour x⟩ from .inr (.inl ⟨x, List.mem_filter.2 ⟨HXM.out, by simpa using hf⟩, tb, tp, rfl⟩))
              clear hz tb th tp
              go_wp2_with (first
        | (go_at_call 11; refine (best_calls _ p x hour HSP.out.2.2.1 ⟨HSP.out.2.2.2.1, HSP.out.2.2.2.2.1⟩).mono ?_; rintro e w11 ⟨rfl, hb_⟩; replace HB := Aside0.mk (below_step HB.out hb_); replace Kb3 := Aside0.mk ((hb_.block _ (blk_lt Kb3.out)).trans Kb3.out); replace cb3_0 := pw_cell_below hb_ cb3_0; replace cb3_1 := pw_cell_below hb_ cb3_1; replace cb3_2 := pw_cell_below hb_ cb3_2; replace cb3_3 := pw_cell_below hb_ cb3_3; replace cb3_4 := pw_cell_below hb_ cb3_4; replace cb3_5 := pw_cell_below hb_ cb3_5; replace cb3_6 := pw_cell_below hb_ cb3_6; replace cb3_7 := pw_cell_below hb_ cb3_7; replace cb3_8 := pw_cell_below hb_ cb3_8; replace cb3_9 := pw_cell_below hb_ cb3_9; replace cb3_10 := pw_cell_below hb_ cb3_10; replace cb3_11 := pw_cell_below hb_ cb3_11; replace cb3_12 := pw_cell_below hb_ cb3_12; replace cb3_13 := pw_cell_below hb_ cb3_13; clear hb_)
        | (go_at_call 12; refine (target_calls _ cb ob A c l (some ah) hs.length ch p hour floor sw x (HCA.out.below (HB7.out.trans (HB.out.mono HB7.out.size))) HG.out.rising (by have := HLL.out; omega) HSP.out.2.2.1 ⟨HSP.out.2.2.2.1, HSP.out.2.2.2.2.1⟩).mono ?_; rintro e w12 ⟨rfl, hb_⟩; replace HB := Aside0.mk (below_step HB.out hb_); replace Kb3 := Aside0.mk ((hb_.block _ (blk_lt Kb3.out)).trans Kb3.out); replace cb3_0 := pw_cell_below hb_ cb3_0; replace cb3_1 := pw_cell_below hb_ cb3_1; replace cb3_2 := pw_cell_below hb_ cb3_2; replace cb3_3 := pw_cell_below hb_ cb3_3; replace cb3_4 := pw_cell_below hb_ cb3_4; replace cb3_5 := pw_cell_below hb_ cb3_5; replace cb3_6 := pw_cell_below hb_ cb3_6; replace cb3_7 := pw_cell_below hb_ cb3_7; replace cb3_8 := pw_cell_below hb_ cb3_8; replace cb3_9 := pw_cell_below hb_ cb3_9; replace cb3_10 := pw_cell_below hb_ cb3_10; replace cb3_11 := pw_cell_below hb_ cb3_11; replace cb3_12 := pw_cell_below hb_ cb3_12; replace cb3_13 := pw_cell_below hb_ cb3_13; clear hb_; rw [HTB.out])
        | ((with_reducible refine gate_dst (N := 12) rfl ?_); refine box_event ?hg (N := 12) ?hd (cs := #[.int .i64 0, .int .i64 0]) (t := 38) ?hr ?_; (case hd => rfl); (case hg => rfl); (case hr => first | (go_simp; done) | (go_simp; rfl)); intro b12 hb12 w13 Kb12 hb_; have Gb12 := Aside0.mk (by rw [hb12]; exact HB.out.size : w7.heap.size ≤ b12); have N3 := Aside0.mk (fun e => by have := blk_lt Kb3.out; omega : b3 ≠ b12); replace HB := Aside0.mk (below_step HB.out hb_); clear hb12; replace cb3_0 := pw_cell_below hb_ cb3_0; replace cb3_1 := pw_cell_below hb_ cb3_1; replace cb3_2 := pw_cell_below hb_ cb3_2; replace cb3_3 := pw_cell_below hb_ cb3_3; replace cb3_4 := pw_cell_below hb_ cb3_4; replace cb3_5 := pw_cell_below hb_ cb3_5; replace cb3_6 := pw_cell_below hb_ cb3_6; replace cb3_7 := pw_cell_below hb_ cb3_7; replace cb3_8 := pw_cell_below hb_ cb3_8; replace cb3_9 := pw_cell_below hb_ cb3_9; replace cb3_10 := pw_cell_below hb_ cb3_10; replace cb3_11 := pw_cell_below hb_ cb3_11; replace cb3_12 := pw_cell_below hb_ cb3_12; replace cb3_13 := pw_cell_below hb_ cb3_13; clear hb_; replace Kb12 := Aside0.mk Kb12)
        | (refine store_agg rfl 38 (.tmp 12) (.tmp 124) rfl rfl b12 #[.int .i64 (tgtT l p hour x), .int .i64 (tgtI l p hour x)] 38 _ rfl rfl Kb12.out size38 rfl (by simp [Value.oneCell']) ?_; intro w13b k_ g_; replace HB := Aside0.mk (HB.out.grown g_ HB.out.size (fun r e => by cases e; exact Gb12.out)); replace cb3_0 := cell_grown cb3_0 g_ (fun e => by cases e; exact N3.out rfl); replace cb3_1 := cell_grown cb3_1 g_ (fun e => by cases e; exact N3.out rfl); replace cb3_2 := cell_grown cb3_2 g_ (fun e => by cases e; exact N3.out rfl); replace cb3_3 := cell_grown cb3_3 g_ (fun e => by cases e; exact N3.out rfl); replace cb3_4 := cell_grown cb3_4 g_ (fun e => by cases e; exact N3.out rfl); replace cb3_5 := cell_grown cb3_5 g_ (fun e => by cases e; exact N3.out rfl); replace cb3_6 := cell_grown cb3_6 g_ (fun e => by cases e; exact N3.out rfl); replace cb3_7 := cell_grown cb3_7 g_ (fun e => by cases e; exact N3.out rfl); replace cb3_8 := cell_grown cb3_8 g_ (fun e => by cases e; exact N3.out rfl); replace cb3_9 := cell_grown cb3_9 g_ (fun e => by cases e; exact N3.out rfl); replace cb3_10 := cell_grown cb3_10 g_ (fun e => by cases e; exact N3.out rfl); replace cb3_11 := cell_grown cb3_11 g_ (fun e => by cases e; exact N3.out rfl); replace cb3_12 := cell_grown cb3_12 g_ (fun e => by cases e; exact N3.out rfl); replace cb3_13 := cell_grown cb3_13 g_ (fun e => by cases e; exact N3.out rfl); clear Kb12; have Kb12 := Aside0.mk k_; clear k_ g_; have cb12_0 := blk_cell Kb12.out 0; have cb12_1 := blk_cell Kb12.out 1; simp only [List.getElem?_toArray, List.getElem?_cons_zero, List.getElem?_cons_succ] at cb12_0 cb12_1)
        | (go_at_call 13; refine (has_calls _ (tgtT l p hour x) (tgtI l p hour x) x).mono ?_; rintro e w14 ⟨rfl, hb_⟩; replace HB := Aside0.mk (below_step HB.out hb_); replace cb3_0 := pw_cell_below hb_ cb3_0; replace cb3_1 := pw_cell_below hb_ cb3_1; replace cb3_2 := pw_cell_below hb_ cb3_2; replace cb3_3 := pw_cell_below hb_ cb3_3; replace cb3_4 := pw_cell_below hb_ cb3_4; replace cb3_5 := pw_cell_below hb_ cb3_5; replace cb3_6 := pw_cell_below hb_ cb3_6; replace cb3_7 := pw_cell_below hb_ cb3_7; replace cb3_8 := pw_cell_below hb_ cb3_8; replace cb3_9 := pw_cell_below hb_ cb3_9; replace cb3_10 := pw_cell_below hb_ cb3_10; replace cb3_11 := pw_cell_below hb_ cb3_11; replace cb3_12 := pw_cell_below hb_ cb3_12; replace cb3_13 := pw_cell_below hb_ cb3_13; replace Kb12 := Aside0.mk ((hb_.block _ (blk_lt Kb12.out)).trans Kb12.out); replace cb12_0 := pw_cell_below hb_ cb12_0; replace cb12_1 := pw_cell_below hb_ cb12_1; clear hb_; rw [HHAS.out])
        | (go_at_call 14; refine (needs_calls _ cb ob A c l (some ah) hs.length ch p hour floor sw hs 2 (tgtT l p hour x) (tgtI l p hour x) (HCA.out.below (HB7.out.trans (HB.out.mono HB7.out.size))) HG.out.rising (by have := HLL.out; omega) HSP.out.2.2.1 ⟨HSP.out.2.2.2.1, HSP.out.2.2.2.2.1⟩ (good_wf HG.out) (Kd.C_below (Kd.C_below HHS.out HBW.out) (HB7.out.trans (HB.out.mono HB7.out.size))) (by have := HSP.out.2.1; omega) HN.out (tgt_wf HTB.out)).mono ?_; rintro e w15 ⟨r, rfl, hr, hb_⟩; obtain rfl : r = true := hr.2 HGM.out; clear hr; replace HB := Aside0.mk (below_step HB.out hb_); clear hb_)
        | fail)
              go_roundw
              case rel => exact ⟨q + 1, by omega, by go_num, HB⟩
              case measure => simp [intOf]; omega
        · obtain rfl : hs.length = q := by omega
          clear hql hq
          go_wp2_with (first
        | (go_at_call 7; refine (alive_calls _).mono ?_; rintro e wA ⟨rfl, hb_⟩; clear cb3_0 cb3_1 cb3_2 cb3_3 cb3_4 cb3_5 cb3_6 cb3_7 cb3_8 cb3_9 cb3_10 cb3_11 cb3_12 cb3_13; replace HB := Aside0.mk (below_step HB.out hb_); clear hb_)
        | fail)
          go_ret
          exact ⟨rfl, HBW.out.trans (Below.mono (HB7.out.trans (HB.out.mono HB7.out.size)) HBW.out.size)⟩
end Go.Proofs.YthhmfeiefbnhcaaGreat.Due
namespace Go.Proofs.YthhmfeiefbnhcaaGreat.Due
open Go.ChangeShapes Go.WideShapes Go.RowKit Go.Deep Go.Proofs.YthhmfeiefbnhcaaGreat.PDueParts Go.Proofs.YthhmfeiefbnhcaaGreatW.PrintWords Go.Proofs.YthhmfeiefbnhcaaGreatW.PrintLast
set_option linter.unusedVariables false
set_option linter.unusedSimpArgs false
section
variable {H : Type} {enc : TypeId × Value → H} {w : World} {base : Nat} {spare : Nat → Bool} {held : Bool}
theorem cells43 : Tryz.prog.cellsOf 43 = 6 := by kernel_rfl
theorem cells4 : Tryz.prog.cellsOf 4 = 1 := by kernel_rfl
theorem cells22 : Tryz.prog.cellsOf 22 = 1 := by kernel_rfl
theorem cells23 : Tryz.prog.cellsOf 23 = 1 := by kernel_rfl
theorem cells25 : Tryz.prog.cellsOf 25 = 9 := by kernel_rfl
theorem cells27 : Tryz.prog.cellsOf 27 = 14 := by kernel_rfl
theorem field_of {fs : Array Field} {t : TypeId} {fuel : Nat} {cs : List Value} {x : DataW H × List MemPlace} (ht : Tryz.prog.underlying t = some (.struct fs)) (h : DataW.trod enc Tryz.prog w base spare held fuel t cs = some x) (i : Nat) (f : Field) (hf : fs[i]? = some f) :
    ∃ n y, DataW.trod enc Tryz.prog w base spare held n f.type ((cs.drop f.offset).take (Tryz.prog.cellsOf f.type)) = some y := by
  obtain ⟨xs, n, _, _, hl, hlen, hx⟩ := DataW.trod_struct ht h
  have := hx i f hf
  have hi : i < xs.length := by rw [hlen]; exact (Array.getElem?_eq_some_iff.1 hf).1
  rw [List.getElem?_eq_getElem hi] at this
  exact ⟨n, _, this⟩
theorem struct_len {fs : Array Field} {t : TypeId} {fuel : Nat} {cs : List Value} {x : DataW H × List MemPlace} (ht : Tryz.prog.underlying t = some (.struct fs)) (h : DataW.trod enc Tryz.prog w base spare held fuel t cs = some x) : cs.length = Tryz.prog.cellsOf t := by
  obtain ⟨xs, n, _, _, hl, hlen, hx⟩ := DataW.trod_struct ht h
  exact hl
theorem el38 {fuel : Nat} {cs : List Value} {y : DataW H × List MemPlace} (h : DataW.trod enc Tryz.prog w base spare held fuel 38 cs = some y) : ∃ a b : Int, cs = [.int .i64 a, .int .i64 b] := by
  have hl := struct_len Tryz.underlying38 h
  rw [cells38] at hl
  match cs, hl with
  | [c0, c1], _ =>
    obtain ⟨_, _, g0⟩ := field_of Tryz.underlying38 h 0 _ rfl
    obtain ⟨_, _, g1⟩ := field_of Tryz.underlying38 h 1 _ rfl
    simp [cells2, cells3] at g0 g1
    obtain ⟨a, e0, _⟩ := DataW.trod_int Tryz.underlying3 g0
    obtain ⟨b, e1, _⟩ := DataW.trod_int Tryz.underlying2 g1
    simp at e0 e1
    subst e0; subst e1
    exact ⟨a, b, rfl⟩
theorem el43 {fuel : Nat} {cs : List Value} {y : DataW H × List MemPlace} (h : DataW.trod enc Tryz.prog w base spare held fuel 43 cs = some y) : ∃ x : S43, cs = [.int .i64 x.f0.f0, .int .i64 x.f0.f1, .int .i64 x.f1, .int .i64 x.f2, .int .i64 x.f3, .bool x.f4] := by
  have hl := struct_len Tryz.underlying43 h
  rw [cells43] at hl
  match cs, hl with
  | [c0, c1, c2, c3, c4, c5], _ =>
    obtain ⟨_, _, g0⟩ := field_of Tryz.underlying43 h 0 _ rfl
    obtain ⟨_, _, g1⟩ := field_of Tryz.underlying43 h 1 _ rfl
    obtain ⟨_, _, g2⟩ := field_of Tryz.underlying43 h 2 _ rfl
    obtain ⟨_, _, g3⟩ := field_of Tryz.underlying43 h 3 _ rfl
    obtain ⟨_, _, g4⟩ := field_of Tryz.underlying43 h 4 _ rfl
    simp [cells2, cells3, cells4, cells38] at g0 g1 g2 g3 g4
    obtain ⟨a, b, e0⟩ := el38 g0
    obtain ⟨c, e1, _⟩ := DataW.trod_int Tryz.underlying2 g1
    obtain ⟨d, e2, _⟩ := DataW.trod_int Tryz.underlying2 g2
    obtain ⟨e, e3, _⟩ := DataW.trod_int Tryz.underlying2 g3
    obtain ⟨f, e4, _⟩ := DataW.trod_bool Tryz.underlying4 g4
    simp at e0 e1 e2 e3 e4
    obtain ⟨rfl, rfl⟩ := e0
    subst e1; subst e2; subst e3; subst e4
    exact ⟨⟨⟨a, b⟩, c, d, e, f⟩, rfl⟩
theorem open_row {α : Type} [Inhabited α] (d : Kd α) {t e : TypeId} (ht : Tryz.prog.underlying t = some (.slice e)) (hc : Tryz.prog.cellsOf e = d.sz) (el : ∀ {fuel : Nat} {cs : List Value} {y : DataW H × List MemPlace}, DataW.trod enc Tryz.prog w base spare held fuel e cs = some y → ∃ x : α, d.K w x cs)
    {fuel : Nat} {v : Value} {y : DataW H × List MemPlace} (h : DataW.trod enc Tryz.prog w base spare held fuel t [v] = some y) :
    ∃ (A : Option Addr) (c : Nat) (xs : List α), v = .slice A xs.length c ∧ d.C w A xs.length xs ∧ xs.length ≤ c ∧ c ≤ maxLen ∧ (A = none → c = 0) := by
  rcases open_slice ht h with ⟨hcs, _⟩ | ⟨a, len, cap, m, n, D, Pl, hcs, _, hl, hm, hmm, _, hx⟩
  · cases hcs
    exact ⟨none, 0, [], rfl, ⟨rfl, by simp, fun h => absurd h (by simp)⟩, Nat.le_refl _, Nat.zero_le _, fun _ => rfl⟩
  · cases hcs
    have hle : len ≤ m := by rw [hmm]; split <;> omega
    obtain ⟨f, hf⟩ := choose_lt (α := α) (n := len) (p := fun i x => ∃ cs', d.K w x cs' ∧ cs'.length = d.sz ∧ ∀ j u, cs'[j]? = some u → w.cell? (a.add (i * d.sz + j)) = some u) (fun i hi => by
      obtain ⟨cs', h1, h2⟩ := hx i (by omega)
      rw [hc] at h1
      obtain ⟨_, hlen, hcell⟩ := World.cells?_some h1
      obtain ⟨x, hK⟩ := el h2
      refine ⟨x, cs', hK, hlen, fun j u hu => ?_⟩
      have hj : j < d.sz := by rw [← hlen]; exact (List.getElem?_eq_some_iff.1 hu).1
      have := hcell j hj
      rw [Go.Deep.add_add] at this
      exact this.trans hu)
    have hml : len ≤ 9223372036854775807 := by unfold maxLen at hm; omega
    refine ⟨some a, cap, (List.range len).map f, by simp, ⟨rfl, by simpa using hml, fun _ => ⟨a, rfl, fun j p hj => ?_⟩⟩, by simpa using hl, hm, fun h => by cases h⟩
    rw [List.getElem?_map] at hj
    obtain ⟨i, hi, rfl⟩ := Option.map_eq_some_iff.1 hj
    obtain ⟨hi1, hi2⟩ := List.getElem?_eq_some_iff.1 hi
    have hij : i = j := by rw [← hi2]; simp
    subst hij
    obtain ⟨cs', hK, hlen, hcell⟩ := hf i (by simpa using hi1)
    exact ⟨cs', hlen, hK, hcell⟩
instance instS43 : Inhabited S43 := ⟨z43⟩
theorem el25 {fuel : Nat} {cs : List Value} {y : DataW H × List MemPlace} (h : DataW.trod enc Tryz.prog w base spare held fuel 25 cs = some y) : ∃ p : Pol, cs = [.int .i64 p.r0, .int .i64 p.r1, .int .i64 p.r2, .int .i64 p.r3, .int .i64 p.r4, .int .i64 p.r5, .int .i64 p.r6, .int .i64 p.r7, .int .i64 p.r8] := by
  have hl := struct_len Tryz.underlying25 h
  rw [cells25] at hl
  match cs, hl with
  | [c0, c1, c2, c3, c4, c5, c6, c7, c8], _ =>
    obtain ⟨_, _, g0⟩ := field_of Tryz.underlying25 h 0 _ rfl
    obtain ⟨_, _, g1⟩ := field_of Tryz.underlying25 h 1 _ rfl
    obtain ⟨_, _, g2⟩ := field_of Tryz.underlying25 h 2 _ rfl
    obtain ⟨_, _, g3⟩ := field_of Tryz.underlying25 h 3 _ rfl
    obtain ⟨_, _, g4⟩ := field_of Tryz.underlying25 h 4 _ rfl
    obtain ⟨_, _, g5⟩ := field_of Tryz.underlying25 h 5 _ rfl
    obtain ⟨_, _, g6⟩ := field_of Tryz.underlying25 h 6 _ rfl
    obtain ⟨_, _, g7⟩ := field_of Tryz.underlying25 h 7 _ rfl
    obtain ⟨_, _, g8⟩ := field_of Tryz.underlying25 h 8 _ rfl
    simp [cells2, cells3] at g0 g1 g2 g3 g4 g5 g6 g7 g8
    obtain ⟨a0, e0, _⟩ := DataW.trod_int Tryz.underlying2 g0
    obtain ⟨a1, e1, _⟩ := DataW.trod_int Tryz.underlying2 g1
    obtain ⟨a2, e2, _⟩ := DataW.trod_int Tryz.underlying2 g2
    obtain ⟨a3, e3, _⟩ := DataW.trod_int Tryz.underlying2 g3
    obtain ⟨a4, e4, _⟩ := DataW.trod_int Tryz.underlying2 g4
    obtain ⟨a5, e5, _⟩ := DataW.trod_int Tryz.underlying2 g5
    obtain ⟨a6, e6, _⟩ := DataW.trod_int Tryz.underlying2 g6
    obtain ⟨a7, e7, _⟩ := DataW.trod_int Tryz.underlying3 g7
    obtain ⟨a8, e8, _⟩ := DataW.trod_int Tryz.underlying2 g8
    simp at e0 e1 e2 e3 e4 e5 e6 e7 e8
    subst e0; subst e1; subst e2; subst e3; subst e4; subst e5; subst e6; subst e7; subst e8
    exact ⟨⟨a0, a1, a2, a3, a4, a5, a6, a7, a8⟩, rfl⟩
set_option maxRecDepth 100000 in
theorem list14 {cs : Array Value} (h : cs.size = 14) : ∃ c0 c1 c2 c3 c4 c5 c6 c7 c8 c9 c10 c11 c12 c13, cs = #[c0, c1, c2, c3, c4, c5, c6, c7, c8, c9, c10, c11, c12, c13] := by
  refine ⟨cs[0], cs[1], cs[2], cs[3], cs[4], cs[5], cs[6], cs[7], cs[8], cs[9], cs[10], cs[11], cs[12], cs[13], ?_⟩
  apply Array.ext
  · simpa using h
  · intro i h1 h2
    have hi : i < 14 := by simpa using h2
    match i, hi with
    | 0, _ => rfl
    | 1, _ => rfl
    | 2, _ => rfl
    | 3, _ => rfl
    | 4, _ => rfl
    | 5, _ => rfl
    | 6, _ => rfl
    | 7, _ => rfl
    | 8, _ => rfl
    | 9, _ => rfl
    | 10, _ => rfl
    | 11, _ => rfl
    | 12, _ => rfl
    | 13, _ => rfl
set_option maxRecDepth 100000 in
theorem open_arg {r : Reach} {b0 : Nat} {v : Value} {dd : DataW H} {ps : List MemPlace} (hv : Value.okWide Tryz.prog w r b0 27 v) (h : DataW.Trod enc Tryz.prog w base spare held 27 v dd ps) :
    ∃ (Al : Option Addr) (cl : Nat) (xs : List S43) (Ah : Option Addr) (ch : Nat) (hs : List Int) (p : Pol) (hour floor : Int) (sw : Bool),
      v = .agg #[.slice Al xs.length cl, .slice Ah hs.length ch, .int .i64 p.r0, .int .i64 p.r1, .int .i64 p.r2, .int .i64 p.r3, .int .i64 p.r4, .int .i64 p.r5, .int .i64 p.r6, .int .i64 p.r7, .int .i64 p.r8, .int .i64 hour, .int .i64 floor, .bool sw] ∧
      Kd.C k43 w Al xs.length xs ∧ xs.length ≤ cl ∧ cl ≤ maxLen ∧ Kd.C (Kd.int .i64) w Ah hs.length hs ∧ (Ah = none → ch = 0) := by
  obtain ⟨cs, rfl, hsz⟩ := okWide_struct Tryz.underlying27 hv
  rw [cells27] at hsz
  obtain ⟨c0, c1, c2, c3, c4, c5, c6, c7, c8, c9, c10, c11, c12, c13, rfl⟩ := list14 hsz
  obtain ⟨fuel, hf⟩ := h
  simp only [Value.cells] at hf
  obtain ⟨_, _, g0⟩ := field_of Tryz.underlying27 hf 0 _ rfl
  obtain ⟨_, _, g1⟩ := field_of Tryz.underlying27 hf 1 _ rfl
  obtain ⟨_, _, g2⟩ := field_of Tryz.underlying27 hf 2 _ rfl
  obtain ⟨_, _, g3⟩ := field_of Tryz.underlying27 hf 3 _ rfl
  obtain ⟨_, _, g4⟩ := field_of Tryz.underlying27 hf 4 _ rfl
  obtain ⟨_, _, g5⟩ := field_of Tryz.underlying27 hf 5 _ rfl
  simp [cells2, cells4, cells22, cells23, cells25] at g0 g1 g2 g3 g4 g5
  obtain ⟨Al, cl, xs, rfl, hX, hcl, hclm, _⟩ := open_row k43 Tryz.underlying22 cells43 (fun hh => by obtain ⟨x, rfl⟩ := el43 hh; exact ⟨x, k43_mk _ x⟩) g0
  obtain ⟨Ah, ch, hs, rfl, hH, _, _, hn⟩ := open_row (Kd.int .i64) Tryz.underlying23 cells2 (fun hh => by obtain ⟨x, rfl, _⟩ := DataW.trod_int Tryz.underlying2 hh; exact ⟨x, rfl⟩) g1
  obtain ⟨p, e2⟩ := el25 g2
  obtain ⟨hour, e3, _⟩ := DataW.trod_int Tryz.underlying2 g3
  obtain ⟨floor, e4, _⟩ := DataW.trod_int Tryz.underlying2 g4
  obtain ⟨sw, e5, _⟩ := DataW.trod_bool Tryz.underlying4 g5
  simp at e2 e3 e4 e5
  obtain ⟨rfl, rfl, rfl, rfl, rfl, rfl, rfl, rfl, rfl⟩ := e2
  subst e3; subst e4; subst e5
  exact ⟨Al, cl, xs, Ah, ch, hs, p, hour, floor, sw, rfl, hX, hcl, hclm, hH, hn⟩
end
theorem parts_calls (W : World) (Al : Option Addr) (cl : Nat) (xs : List S43) (Ah : Option Addr) (ch : Nat) (hs : List Int) (p : Pol) (hour floor : Int) (sw : Bool) (hX : Kd.C k43 W Al xs.length xs) (hcl : xs.length ≤ cl) (hclm : cl ≤ maxLen) (hH : Kd.C (Kd.int .i64) W Ah hs.length hs) (hn : Ah = none → ch = 0) :
    Calls Tryz.prog 3 #[.agg #[.slice Al xs.length cl, .slice Ah hs.length ch, .int .i64 p.r0, .int .i64 p.r1, .int .i64 p.r2, .int .i64 p.r3, .int .i64 p.r4, .int .i64 p.r5, .int .i64 p.r6, .int .i64 p.r7, .int .i64 p.r8, .int .i64 hour, .int .i64 floor, .bool sw]] W fun e w' => e = .returned (.bool true) ∧ Below W.heap.size W w' := by
  by_cases hs' : Spoken xs hs p hour floor
  · exact parts_yes W Al cl xs Ah ch hs p hour floor sw hX hcl hclm hH hn hs'
  · exact parts_no W Al cl xs Ah ch hs p hour floor sw hX.2.1 hH.2.1 hs'
end Go.Proofs.YthhmfeiefbnhcaaGreat.Due
namespace Go.Proofs.YthhmfeiefbnhcaaGreat
open Go.ChangeShapes Go.WideShapes Go.ChangeAt Go.RowKit
set_option linter.unusedVariables false
namespace Due
theorem own : ownKnob Tryz.prog.godebug = none := by kernel_rfl
theorem laidOut : laidOutB Tryz.prog = true := by kernel_rfl
set_option maxRecDepth 100000 in
theorem lifted (os : Os) (started : os.Started) (H : Type) (enc : TypeId × Value → H) :
    ReturnsInHanded {} Tryz.checked os 3 .any (Rows.duePartsSpec.pre6 enc Tryz.prog Tryz.f3 Rows.duePartsRow.domain false) (Rows.duePartsSpec.post enc Tryz.prog Tryz.f3 false true false false) := by
  refine returnsInHanded_of_change_sized (C := Tryz.checked) own started (by kernel_rfl) Tryz.func3
    (ChangeSpec.witness6 (enc := enc) (C := Tryz.checked) false ⟨#[], #[.agg #[.slice none 0 0, .slice none 0 0, .int .i64 0, .int .i64 0, .int .i64 0, .int .i64 0, .int .i64 0, .int .i64 0, .int .i64 0, .int .i64 0, .int .i64 0, .int .i64 0, .int .i64 0, .bool false]], []⟩ 8 (by kernel_rfl) (by kernel_rfl) (by kernel_rfl) (by kernel_rfl)) ?_
  intro W base args ds gs before hval0 hW hcnd hsz0 _
  have hval : ∀ (j : Nat) t v, Tryz.f3.params[j]? = some t → args[j]? = some v → Value.okWide Tryz.prog W .any base t v := hval0
  have hW' := hW
  obtain ⟨p, q, hA0, hV, rfl, hfz, hnd⟩ := hW
  have hA : DataW.TrodAll enc Tryz.prog W 0 (fun _ => true) true Tryz.f3.params.toList args.toList ds p := hA0
  rw [Tryz.params3] at hA hval
  obtain ⟨v0, vs0, d0, ds0, p0, q0, hargs, rfl, rfl, h0, r0⟩ := trodAll_cons hA
  obtain ⟨rfl, rfl, rfl⟩ := trodAll_nil r0
  obtain rfl : args = #[v0] := by cases args; simp_all
  obtain ⟨rfl, rfl⟩ := trodVars_none hV
  have k0 := h0
  have lt0 : ∀ x ∈ p0, x.block < W.heap.size := by obtain ⟨m, hm⟩ := k0; exact DataW.trod_lt m _ _ _ hm
  obtain ⟨Al, cl, xs, Ah, ch, hs, pp, hour, floor, sw, rfl, hX, hcl, hclm, hH, hn⟩ := open_arg (hval 0 27 v0 rfl rfl) h0
  clear hA0 hval0 hsz0
  refine (parts_calls W Al cl xs Ah ch hs pp hour floor sw hX hcl hclm hH hn).mono fun e W' ⟨he, bel⟩ => ?_
  subst he
  exact ⟨_, rfl, _, _, _, [], _, [], hW', trodAll_mk1 (shut_bool Tryz.underlying4 _), (trodAll_cons_mk (Below.trod laidOut (by kernel_rfl) (of_decide_eq_true (by kernel_rfl)) k0 bel lt0) trodAll_mk0), rfl, bel.frame _, fun h => by cases h⟩
theorem over : Rows.duePartsRow.holds Tryz.pinned (OpenSpec.ofChange Rows.duePartsSpec) :=
  OpenClaim.holds_of_wide 3 Tryz.f3 rfl rfl rfl rfl rfl rfl rfl ⟨rfl, rfl, rfl, rfl, rfl⟩ rfl rfl rfl rfl rfl (by kernel_rfl) Tryz.func3 (by kernel_rfl)
    (of_decide_eq_true (by kernel_rfl)) (by unfold Func.isWrapper; first | (rw [if_pos (by decide +kernel)]; kernel_rfl) | (rw [if_neg (by decide +kernel)]; exact ⟨rfl, rfl⟩))
    (fun os started H enc _ => lifted os started H enc)
end Due
theorem dueParts_holds : Rows.DuePartsSaid := Due.over
end Go.Proofs.YthhmfeiefbnhcaaGreat
