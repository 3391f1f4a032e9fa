/-
  Part 9 of the proof: DAll DGath DNeeds DCmp DKey DColl DSortF DNeeded DAlive DLaw.
-/
import Derived.Scope
import Derived.Shelf.SlSortCmp.NoneTotal
import Derived.Sort.MapsRangeIn
import Derived.Test.YthhmfeiefbnhcaaGreatDP8
namespace Go.Proofs.YthhmfeiefbnhcaaGreat.Due
open Go.RowKit Go.Shelf Go.Proofs.YthhmfeiefbnhcaaGreat.PDueParts Go.Proofs.YthhmfeiefbnhcaaGreatW.PrintWords Go.Proofs.YthhmfeiefbnhcaaGreatW.PrintLast
set_option linter.unusedVariables false
set_option linter.unusedSimpArgs false
attribute [local go_sem] Oper.semAt_some
def encE1 (p : S183) : Array Value := #[.agg #[.int .i64 p.f1.f0.f0, .int .i64 p.f1.f0.f1, .int .i64 p.f1.f1, .int .i64 p.f1.f2, .int .i64 p.f1.f3, .bool p.f1.f4]]
def KC (n₀ : Nat) (W W' : World) : Prop := Below n₀ W W' ∧ ∀ (k : Nat) (cs : Array Value) (t : TypeId) (fr : Nat × Nat), W.heap[k]? = some (.cells cs t fr) → W'.heap[k]? = some (.cells cs t fr)
theorem KC.trans {n₀ : Nat} {a b c : World} (h : KC n₀ a b) (k : KC n₀ b c) : KC n₀ a c := ⟨h.1.trans k.1, fun i cs t fr hi => k.2 i cs t fr (h.2 i cs t fr hi)⟩
theorem KC.of_below {n₀ : Nat} {W W' : World} (h : Below W.heap.size W W') (hn : n₀ ≤ W.heap.size) : KC n₀ W W' := ⟨h.mono hn, fun k cs t fr hk => (h.block k (blk_lt hk)).trans hk⟩
theorem KC.put {n₀ : Nat} (W : World) (l : Nat) (o o' : Obj) (hn : n₀ ≤ l) (hl : W.heap[l]? = some o) (ho : o.isCells = false) : KC n₀ W (W.putObj l o') := by
  have hlt := (Array.getElem?_eq_some_iff.1 hl).1
  refine ⟨(Below.refl n₀ W).grown (grownBy_putObj' W l o') (by omega) (fun k e => by cases e; omega), fun k cs t fr hk => ?_⟩
  refine ((grownBy_putObj' W l o').block k (blk_lt hk) (fun e => ?_)).trans hk
  cases e
  rw [hk] at hl; cases hl; cases ho
set_option maxRecDepth 100000 in
set_option maxHeartbeats 2000000 in
theorem call1_seq (b1 cb ob : Nat) (A : Option Addr) (c : Nat) (l : List S183) (w0 w : World) (hC : CatAt w0 cb ob A c l) (hB : Below w0.heap.size w0 w) (hb : w.cell? ⟨b1, 0, none⟩ = some (.pointer (some ⟨cb, 0, none⟩))) :
    SeqK Tryz.prog 112 #[.pointer (some ⟨b1, 0, none⟩)] encE1 (KC w0.heap.size) (fun ys => ys = l) (fun pre => pre <+: l) l.length w := by
  intro lY J Jx W hW hJ hJx hY h0
  have HC := Aside0.mk hC
  have HW0 := Aside0.mk (below_step hB hW)
  have HJ := Aside0.mk hJ
  have HJX := Aside0.mk hJx
  have HY := Aside0.mk hY
  have H0 := Aside0.mk h0
  have pb := pw_cell_below hW hb
  have pc : W.cell? ⟨cb, 0, none⟩ = some (.pointer (some ⟨ob, 0, none⟩)) := pw_cell_below HW0.out ((blk_cell hC.blk 0).trans rfl)
  have HB := Aside0.mk (Below.refl W.heap.size W)
  clear hC hB hb hW hJ hJx hY h0
  refine (callsIn_wide (n := 3)).1 (callsIn_of_wp_marks Tryz.func112 rfl trivial ?_ rfl)
  simp only [Tryz.ntmps112, List.size_toArray, List.length_cons, List.length_nil, Nat.reduceAdd, Nat.reduceSub, Array.replicate_succ, Array.replicate_zero, List.push_toArray, List.append_toArray, List.nil_append, List.cons_append]
  refine wpIn_wide.2 ?_
  go_wp2_with (first
      | ((with_reducible refine gate_dst (N := 2) rfl ?_); refine box_event ?hg (N := 2) ?hd (cs := #[.func (.yield lY) #[] #[]]) (t := 184) ?hr ?_; (case hd => rfl); (case hg => rfl); (case hr => first | (go_simp; done) | (go_simp; rfl)); intro b2 hb2 w1 Kb2 hb_; have Gb2 := Aside0.mk (by rw [hb2]; exact HB.out.size : W.heap.size ≤ b2); replace HB := Aside0.mk (below_step HB.out hb_); clear hb2; replace pb := pw_cell_below hb_ pb; replace pc := pw_cell_below hb_ pc; clear hb_; have cb2_0 := blk_cell Kb2 0; simp only [List.getElem?_toArray, List.getElem?_cons_zero, List.getElem?_cons_succ] at cb2_0; replace Kb2 := Aside0.mk Kb2)
      | (go_at_call 113; refine (oall_calls _ ob A c l (HC.out.map.below (below_step HW0.out HB.out))).mono ?_; rintro e w2 ⟨bs, rfl, hbs, hcs, hb_⟩; have HCS := Aside0.mk hcs; clear hbs hcs; replace HB := Aside0.mk (below_step HB.out hb_); replace pb := pw_cell_below hb_ pb; replace pc := pw_cell_below hb_ pc; replace cb2_0 := pw_cell_below hb_ cb2_0; replace Kb2 := Aside0.mk ((hb_.block _ (blk_lt Kb2.out)).trans Kb2.out); clear hb_)
      | fail)
  refine (wpIn_wide (n := 3)).1 ?_
  refine rangeK (gf := 171) (lb := #[.pointer (some ⟨bs, 0, none⟩)]) rfl (enters_of Tryz.func171 (by kernel_rfl) rfl) (each1_seq bs w0 w2 A c l HC.out.map.rd (below_step HW0.out HB.out) HCS.out) (fun _ _ _ h k => h.trans k) (fun W' l' o o' hl h ho => (KC.put W' l' o o' (Nat.le_trans (Nat.le_trans HW0.out.size HB.out.size) hl) h ho).1) (Below.refl _ _) (fun _ => rfl)
    (fun pre W' => J pre W' ∧ W'.heap[b2]? = some (.cells #[.func (.yield lY) #[] #[]] 184 (0, 0))) (fun c pre W' => c = .ret ∧ Jx pre W') ?hI ?hIx ?h0
    (fun y a' W' => ∃ b4, W'.heap[b4]? = some (.cells #[.int .i64 y.f1.f0.f0, .int .i64 y.f1.f0.f1, .int .i64 y.f1.f1, .int .i64 y.f1.f2, .int .i64 y.f1.f3, .bool y.f1.f4] 43 (0, 0)) ∧ a' = { tmps := #[.func (.yield lY) #[] #[], .pointer (some ⟨b1, 0, none⟩), .pointer (some ⟨b2, 0, none⟩), undef, .pointer (some ⟨b4, 0, none⟩), .pointer (some ⟨cb, 0, none⟩), .bool false, .pointer (some ⟨cb, 0, none⟩), .pointer (some ⟨cb, 0, none⟩), .pointer (some ⟨cb, 0, none⟩), .pointer (some ⟨ob, 0, none⟩), .func (.func 171) #[] #[.pointer (some ⟨bs, 0, none⟩)], .int .i64 y.f0, .agg #[.int .i64 y.f1.f0.f0, .int .i64 y.f1.f0.f1, .int .i64 y.f1.f1, .int .i64 y.f1.f2, .int .i64 y.f1.f3, .bool y.f1.f4], undef, undef, undef, undef], defers := [] }) ?hAx ?assign ?body ?done ?stop
  case hI =>
    rintro pre X Y row ⟨h1, h2⟩ hg hr
    exact ⟨HJ.out pre X Y row h1 hg (fun r e => ⟨Nat.le_trans HB.out.size (hr r e).1, (hr r e).2⟩), blk_turn h2 hg (fun r e => (hr r e).2)⟩
  case hIx =>
    rintro c' pre X Y row ⟨h1, h2⟩ hg hr
    exact ⟨h1, HJX.out pre X Y row h2 hg (fun r e => ⟨Nat.le_trans HB.out.size (hr r e).1, (hr r e).2⟩)⟩
  case h0 => exact ⟨HJ.out [] W w2 none H0.out (grown_of_below HB.out none) (fun r e => by cases e), Kb2.out⟩
  case hAx =>
    rintro x a' _ X Y row ⟨b4, h5, rfl⟩ hg hr
    exact ⟨b4, blk_turn h5 hg (fun r e => (hr r e).2), rfl⟩
  case assign =>
    rintro q pre y W5 K hsz ⟨hJ5, h25⟩ hK
    have HK := Aside0.mk hK
    have HJ5 := Aside0.mk hJ5
    have H25 := Aside0.mk h25
    have HS5 := Aside0.mk (Nat.le_trans (Nat.le_trans HW0.out.size HB.out.size) hsz)
    clear hK hJ5 h25 hsz
    simp only [encP]
    gi_wp2
    have hal : Below W5.heap.size W5 (W5.alloc (.cells #[.int .i64 y.f1.f0.f0, .int .i64 y.f1.f0.f1, .int .i64 y.f1.f1, .int .i64 y.f1.f2, .int .i64 y.f1.f3, .bool y.f1.f4] 43)) := below_alloc (Below.refl _ _) _
    exact HK.out _ _ ((keeps_below hal).from _) (hal.mono HS5.out) ⟨HJ.out.alloc _ HJ5.out, (hal.block _ (blk_lt H25.out)).trans H25.out⟩ ⟨W5.heap.size, blk_new W5 _, rfl⟩
  case body =>
    rintro q pre y a' W5 hl hlt ⟨hJ5, h25⟩ ⟨b4, h10, rfl⟩ hN hSp
    obtain ⟨fn, tmps, assign, body, hy, hR⟩ := yieldAny 0 (HY.out pre y W5 hJ5 hN hSp)
    simp only [encE1] at hy
    have hR' : RoundIn (Fence.wide.inRound q) 0 Tryz.prog lY fn tmps assign body W5 _ := hR
    have HR := Aside0.mk hR'
    clear hR'
    have H25 := Aside0.mk h25
    have cb2_0 : W5.cell? ⟨b2, 0, none⟩ = some (.func (.yield lY) #[] #[]) := (blk_cell h25 0).trans rfl
    have cb4_0 := blk_cell h10 0; have cb4_1 := blk_cell h10 1; have cb4_2 := blk_cell h10 2; have cb4_3 := blk_cell h10 3; have cb4_4 := blk_cell h10 4; have cb4_5 := blk_cell h10 5; simp only [List.getElem?_toArray, List.getElem?_cons_zero, List.getElem?_cons_succ] at cb4_0 cb4_1 cb4_2 cb4_3 cb4_4 cb4_5
    clear hR h25 h10 hJ5 hl hlt hN hSp
    gi_wp2
    refine HR.out.mono ?_
    rintro e W6 (⟨rfl, hJ6, hk6, hf6⟩ | ⟨rfl, hJx6, hf6⟩)
    · have H1 := Aside0.mk hJ6
      have H2 := Aside0.mk hk6
      have H3 := Aside0.mk hf6
      clear hJ6 hk6 hf6 HR
      gi_wp2
      exact ⟨keepsFrom_up H3.out HB.out.size, H2.out.1, H1.out, H2.out.2 _ _ _ _ H25.out⟩
    · have H1 := Aside0.mk hJx6
      have H3 := Aside0.mk hf6
      clear hJx6 hf6 HR
      gi_wp2
      exact ⟨keepsFrom_up H3.out HB.out.size, rfl, H1.out⟩
  case done =>
    rintro D xs W9 hD rfl ⟨hJ9, _⟩ hK
    have H1 := Aside0.mk hJ9
    have H2 := Aside0.mk hK
    have H3 := Aside0.mk (Nat.le_trans HB.out.size hD)
    clear hJ9 hK hD
    refine ⟨by simp, .inl ⟨_, _, rfl, run_takeDeferred H2.out, ?_⟩⟩
    exact ⟨_, results_none rfl _ _ _, ⟨_, rfl⟩, .inl ⟨_, rfl, HJ.out.putObj _ H1.out H3.out H2.out rfl⟩⟩
  case stop =>
    rintro D c' pre W9 hD hpre ⟨rfl, hJ9⟩ hK
    have H1 := Aside0.mk hJ9
    have H2 := Aside0.mk hK
    have H3 := Aside0.mk (Nat.le_trans HB.out.size hD)
    clear hJ9 hK hD
    refine wpIn_ret ?_
    refine ⟨by simp, .inl ⟨_, _, rfl, run_takeDeferred H2.out, ?_⟩⟩
    exact ⟨_, results_none rfl _ _ _, ⟨_, rfl⟩, .inr ⟨_, hpre, HJX.out.putObj _ H1.out H3.out H2.out rfl⟩⟩
set_option maxHeartbeats 1000000 in
theorem call_calls (W : World) (cb : Nat) :
    Calls Tryz.prog 70 #[.pointer (some ⟨cb, 0, none⟩)] W fun e w' => ∃ b, e = .returned (.func (.func 112) #[] #[.pointer (some ⟨b, 0, none⟩)]) ∧ w'.cell? ⟨b, 0, none⟩ = some (.pointer (some ⟨cb, 0, none⟩)) ∧ Below W.heap.size W w' := by
  go_enter Tryz.func70, Tryz.ntmps70
  go_wp2
  go_ret
  exact ⟨W.heap.size, rfl, (blk_cell (blk_new W _) 0).trans rfl, below_alloc (Below.refl _ _) _⟩
end Go.Proofs.YthhmfeiefbnhcaaGreat.Due
namespace Go.Proofs.YthhmfeiefbnhcaaGreat.Due
open Go.RowKit Go.Shelf Go.Proofs.YthhmfeiefbnhcaaGreat.PDueParts Go.Proofs.YthhmfeiefbnhcaaGreatW.PrintWords Go.Proofs.YthhmfeiefbnhcaaGreatW.PrintLast
set_option linter.unusedVariables false
set_option linter.unusedSimpArgs false
attribute [local go_sem] Oper.semAt_some
theorem Hrs.apart {w : World} {A : Option Addr} {xs : List Int} (h : Hrs w A xs) {b : Nat} (hb : b = w.heap.size) : ∀ g, A = some ⟨g, 0, none⟩ → xs ≠ [] → g ≠ b := by
  intro g hA hx e
  obtain ⟨g', hA', hc⟩ := h.at_.resolve_left hx
  rw [hA] at hA'
  cases hA'
  have := World.block_lt_of_cell? w _ (hc 0 (List.length_pos_iff.2 hx))
  have h2 : g < w.heap.size := this
  omega
theorem Hrs.grownB {w w' : World} {A : Option Addr} {xs : List Int} {b : Nat} (h : Hrs w A xs) (hg : w.grownBy w' (some b)) (hne : ∀ g, A = some ⟨g, 0, none⟩ → xs ≠ [] → g ≠ b) : Hrs w' A xs := by
  refine ⟨h.le, ?_⟩
  by_cases hx : xs = []
  · exact .inl hx
  · obtain ⟨g, hA, hc⟩ := h.at_.resolve_left hx
    exact .inr ⟨g, hA, fun j hj => (World.cell?_of_block (hg.block g (World.block_lt_of_cell? w _ (hc j hj)) (fun e => hne g hA hx (by cases e; rfl)))).trans (hc j hj)⟩
theorem size142 : (Tryz.prog.info? 142).map (·.size) = some 1 := by kernel_rfl
theorem size23 : (Tryz.prog.info? 23).map (·.size) = some 1 := by kernel_rfl
section
variable {P : Program} {ops : Array Oper} {rest : List Oper} {o : Oper} {a : Act} {Q : Exit → Act → World → Prop}
theorem map_event {W : World} (hgd : o.guard = none) (hrun : (execOp a.eval o).run P W = .ok (.value (.map (some W.heap.size))) (W.alloc (.map #[] 0)))
    (h : ∀ mb, mb = W.heap.size → ∀ w1, JobsAt w1 mb 0 (fun _ => False) → Below W.heap.size W w1 → wpList P ops Q rest (a.put o.dst (.map (some mb))) w1) : wpList P ops Q (o :: rest) a W :=
  Kd.event_run hgd hrun (h _ rfl _ (JobsAt.made W) (below_alloc (Below.refl _ _) _))
end
def buildJ (l : List S183) (p : Pol) (hour h : Int) (z : Job) : Prop := tgtB l p hour h = true ∧ 0 < tgtT l p hour h ∧ z = ⟨2, tgtT l p hour h, tgtI l p hour h⟩
def gathM (l : List S183) (p : Pol) (hour floor : Int) (cnt : List Int) (sw : Bool) (z : Job) : Prop :=
  (∃ q ∈ l, entJ l p hour floor cnt q.f1 z) ∨ (∃ h ∈ cnt, buildJ l p hour h z) ∨ (sw = true ∧ z = ⟨4, 0, 0⟩)
set_option maxRecDepth 100000 in
set_option maxHeartbeats 4000000 in
theorem gathered_calls (W : World) (cb ob : Nat) (A : Option Addr) (c : Nat) (l : List S183) (Ah : Option Addr) (nh ch : Nat) (p : Pol) (hour floor : Int) (sw : Bool) (hs : List Int)
    (hC : CatAt W cb ob A c l) (hr : Rising l) (hsz : l.length ≤ 1000) (hok : p.ok) (hh : 0 ≤ hour ∧ hour ≤ 1099511627776) (hwf : ∀ q ∈ l, in64 q.f1.f0.f0 ∧ in64 q.f1.f0.f1)
    (hH : Kd.C (Kd.int .i64) W Ah nh hs) (hnh : nh ≤ 1000) (hn : Ah = none → ch = 0) :
    Calls Tryz.prog 28 #[.agg #[.pointer (some ⟨cb, 0, none⟩), .slice Ah nh ch, .int .i64 p.r0, .int .i64 p.r1, .int .i64 p.r2, .int .i64 p.r3, .int .i64 p.r4, .int .i64 p.r5, .int .i64 p.r6, .int .i64 p.r7, .int .i64 p.r8, .int .i64 hour, .int .i64 floor, .bool sw]] W fun e w' => ∃ mb n, e = .returned (.map (some mb)) ∧ JobsAt w' mb n (gathM l p hour floor (hs.filter fun x => !decide (x < floor)) sw) ∧ n ≤ 2000000 ∧ W.heap.size ≤ mb ∧ Below W.heap.size W w' := by
  have HC := Aside0.mk hC
  have HR := Aside0.mk hr
  have HSZ := Aside0.mk hsz
  have HOK := Aside0.mk hok
  have HH := Aside0.mk hh
  have HWF := Aside0.mk hwf
  have HHS := Aside0.mk hH
  have HNH := Aside0.mk hnh
  have HN := Aside0.mk hn
  have HB := Aside0.mk (Below.refl W.heap.size W)
  clear hC hr hsz hok hh hwf hH hnh hn
  refine (callsIn_wide (n := 3)).1 (callsIn_of_wp_marks Tryz.func28 rfl trivial ?_ rfl)
  simp only [Tryz.ntmps28, List.size_toArray, List.length_cons, List.length_nil, Nat.reduceAdd, Nat.reduceSub, Array.replicate_succ, Array.replicate_zero, List.push_toArray, List.append_toArray, List.nil_append, List.cons_append]
  refine wpIn_wide.2 ?_
  go_wp2_with (first
      | ((with_reducible refine gate_dst (N := 1) rfl ?_); refine box_event ?hg (N := 1) ?hd (cs := #[.pointer (some ⟨cb, 0, none⟩), .slice Ah nh ch, .int .i64 p.r0, .int .i64 p.r1, .int .i64 p.r2, .int .i64 p.r3, .int .i64 p.r4, .int .i64 p.r5, .int .i64 p.r6, .int .i64 p.r7, .int .i64 p.r8, .int .i64 hour, .int .i64 floor, .bool sw]) (t := 30) ?hr ?_; (case hd => rfl); (case hg => rfl); (case hr => first | (go_simp; done) | (go_simp; rfl)); intro b1 hb1 w1 Kb1 hb_; have Gb1 := Aside0.mk (by rw [hb1]; exact HB.out.size : W.heap.size ≤ b1); replace HB := Aside0.mk (below_step HB.out hb_); clear hb1; clear hb_; have cb1_0 := blk_cell Kb1 0; have cb1_1 := blk_cell Kb1 1; have cb1_2 := blk_cell Kb1 2; have cb1_3 := blk_cell Kb1 3; have cb1_4 := blk_cell Kb1 4; have cb1_5 := blk_cell Kb1 5; have cb1_6 := blk_cell Kb1 6; have cb1_7 := blk_cell Kb1 7; have cb1_8 := blk_cell Kb1 8; have cb1_9 := blk_cell Kb1 9; have cb1_10 := blk_cell Kb1 10; have cb1_11 := blk_cell Kb1 11; have cb1_12 := blk_cell Kb1 12; have cb1_13 := blk_cell Kb1 13; simp only [List.getElem?_toArray, List.getElem?_cons_zero, List.getElem?_cons_succ] at cb1_0 cb1_1 cb1_2 cb1_3 cb1_4 cb1_5 cb1_6 cb1_7 cb1_8 cb1_9 cb1_10 cb1_11 cb1_12 cb1_13; replace Kb1 := Aside0.mk Kb1)
      | ((with_reducible refine gate_dst (N := 9) rfl ?_); refine map_event rfl (by go_simp; rfl) ?_; intro mb hmb w2 hM2 hb_; have Gmb := Aside0.mk (by rw [hmb]; exact HB.out.size : W.heap.size ≤ mb); clear hmb; have HM := Aside0.mk hM2; clear hM2; replace HB := Aside0.mk (below_step HB.out hb_); replace cb1_0 := pw_cell_below hb_ cb1_0; replace cb1_1 := pw_cell_below hb_ cb1_1; replace cb1_2 := pw_cell_below hb_ cb1_2; replace cb1_3 := pw_cell_below hb_ cb1_3; replace cb1_4 := pw_cell_below hb_ cb1_4; replace cb1_5 := pw_cell_below hb_ cb1_5; replace cb1_6 := pw_cell_below hb_ cb1_6; replace cb1_7 := pw_cell_below hb_ cb1_7; replace cb1_8 := pw_cell_below hb_ cb1_8; replace cb1_9 := pw_cell_below hb_ cb1_9; replace cb1_10 := pw_cell_below hb_ cb1_10; replace cb1_11 := pw_cell_below hb_ cb1_11; replace cb1_12 := pw_cell_below hb_ cb1_12; replace cb1_13 := pw_cell_below hb_ cb1_13; replace Kb1 := Aside0.mk ((hb_.block _ (blk_lt Kb1.out)).trans Kb1.out); clear hb_)
      | ((with_reducible refine gate_dst (N := 11) rfl ?_); refine box_event ?hg (N := 11) ?hd (cs := #[.pointer (some ⟨cb, 0, none⟩), .slice Ah nh ch, .int .i64 p.r0, .int .i64 p.r1, .int .i64 p.r2, .int .i64 p.r3, .int .i64 p.r4, .int .i64 p.r5, .int .i64 p.r6, .int .i64 p.r7, .int .i64 p.r8, .int .i64 hour, .int .i64 floor, .bool sw, .map (some mb)]) (t := 144) ?hr ?_; (case hd => rfl); (case hg => rfl); (case hr => first | (go_simp; done) | (go_simp; rfl)); intro gb hgb w3 Kgb hb_; have Ggb := Aside0.mk (by rw [hgb]; exact HB.out.size : W.heap.size ≤ gb); have Nb1_gb := Aside0.mk (fun e => by have := blk_lt Kb1.out; omega : b1 ≠ gb); replace HB := Aside0.mk (below_step HB.out hb_); clear hgb; replace cb1_0 := pw_cell_below hb_ cb1_0; replace cb1_1 := pw_cell_below hb_ cb1_1; replace cb1_2 := pw_cell_below hb_ cb1_2; replace cb1_3 := pw_cell_below hb_ cb1_3; replace cb1_4 := pw_cell_below hb_ cb1_4; replace cb1_5 := pw_cell_below hb_ cb1_5; replace cb1_6 := pw_cell_below hb_ cb1_6; replace cb1_7 := pw_cell_below hb_ cb1_7; replace cb1_8 := pw_cell_below hb_ cb1_8; replace cb1_9 := pw_cell_below hb_ cb1_9; replace cb1_10 := pw_cell_below hb_ cb1_10; replace cb1_11 := pw_cell_below hb_ cb1_11; replace cb1_12 := pw_cell_below hb_ cb1_12; replace cb1_13 := pw_cell_below hb_ cb1_13; replace Kb1 := Aside0.mk ((hb_.block _ (blk_lt Kb1.out)).trans Kb1.out); replace HM := Aside0.mk (HM.out.below hb_); clear hb_; replace Kgb := Aside0.mk Kgb)
      | ((with_reducible refine gate_dst (N := 3) rfl ?_); refine box_event ?hg (N := 3) ?hd (cs := #[.pointer none]) (t := 142) ?hr ?_; (case hd => rfl); (case hg => rfl); (case hr => first | (go_simp; done) | (go_simp; rfl)); intro b3 hb3 w4 Kb3 hb_; have Gb3 := Aside0.mk (by rw [hb3]; exact HB.out.size : W.heap.size ≤ b3); have Nb1_b3 := Aside0.mk (fun e => by have := blk_lt Kb1.out; omega : b1 ≠ b3); have Ngb_b3 := Aside0.mk (fun e => by have := blk_lt Kgb.out; omega : gb ≠ b3); replace HB := Aside0.mk (below_step HB.out hb_); clear hb3; replace cb1_0 := pw_cell_below hb_ cb1_0; replace cb1_1 := pw_cell_below hb_ cb1_1; replace cb1_2 := pw_cell_below hb_ cb1_2; replace cb1_3 := pw_cell_below hb_ cb1_3; replace cb1_4 := pw_cell_below hb_ cb1_4; replace cb1_5 := pw_cell_below hb_ cb1_5; replace cb1_6 := pw_cell_below hb_ cb1_6; replace cb1_7 := pw_cell_below hb_ cb1_7; replace cb1_8 := pw_cell_below hb_ cb1_8; replace cb1_9 := pw_cell_below hb_ cb1_9; replace cb1_10 := pw_cell_below hb_ cb1_10; replace cb1_11 := pw_cell_below hb_ cb1_11; replace cb1_12 := pw_cell_below hb_ cb1_12; replace cb1_13 := pw_cell_below hb_ cb1_13; replace Kb1 := Aside0.mk ((hb_.block _ (blk_lt Kb1.out)).trans Kb1.out); replace Kgb := Aside0.mk ((hb_.block _ (blk_lt Kgb.out)).trans Kgb.out); replace HM := Aside0.mk (HM.out.below hb_); clear hb_; replace Kb3 := Aside0.mk Kb3)
      | (refine store_one rfl 142 (.tmp 3) (.tmp 11) rfl rfl b3 (.pointer (some ⟨gb, 0, none⟩)) 142 _ rfl rfl Kb3.out size142 (by simp [Value.oneCell']) ?_; intro w5 k_ g_; replace HB := Aside0.mk (HB.out.grown g_ HB.out.size (fun r e => by cases e; exact Gb3.out)); replace HM := Aside0.mk (HM.out.kept g_ (fun e => by cases e; obtain ⟨o, ho, hcl⟩ := map_obj HM.out; have := Kb3.out; rw [ho] at this; cases this; cases hcl)); replace Kb1 := Aside0.mk (blk_grown Kb1.out g_ (fun e => by cases e; exact Nb1_b3.out rfl)); replace Kgb := Aside0.mk (blk_grown Kgb.out g_ (fun e => by cases e; exact Ngb_b3.out rfl)); clear Kb3; have Kb3 := Aside0.mk k_; clear k_ g_; clear cb1_0; clear cb1_1; clear cb1_2; clear cb1_3; clear cb1_4; clear cb1_5; clear cb1_6; clear cb1_7; clear cb1_8; clear cb1_9; clear cb1_10; clear cb1_11; clear cb1_12; clear cb1_13; have cb1_0 := blk_cell Kb1.out 0; have cb1_1 := blk_cell Kb1.out 1; have cb1_2 := blk_cell Kb1.out 2; have cb1_3 := blk_cell Kb1.out 3; have cb1_4 := blk_cell Kb1.out 4; have cb1_5 := blk_cell Kb1.out 5; have cb1_6 := blk_cell Kb1.out 6; have cb1_7 := blk_cell Kb1.out 7; have cb1_8 := blk_cell Kb1.out 8; have cb1_9 := blk_cell Kb1.out 9; have cb1_10 := blk_cell Kb1.out 10; have cb1_11 := blk_cell Kb1.out 11; have cb1_12 := blk_cell Kb1.out 12; have cb1_13 := blk_cell Kb1.out 13; have cb3_0 := blk_cell Kb3.out 0; simp only [List.getElem?_toArray, List.getElem?_cons_zero, List.getElem?_cons_succ] at cb1_0 cb1_1 cb1_2 cb1_3 cb1_4 cb1_5 cb1_6 cb1_7 cb1_8 cb1_9 cb1_10 cb1_11 cb1_12 cb1_13 cb3_0)
      | (go_at_call 69; refine (counts_calls _ gb cb Ah nh ch p hour floor sw mb hs Kgb.out (Kd.C_below HHS.out HB.out) (by have := HNH.out; omega) HN.out).mono ?_; rintro e w6 ⟨Ac, cc, rfl, hHr, hb_⟩; have HHR := Aside0.mk hHr; clear hHr; replace HB := Aside0.mk (below_step HB.out hb_); replace cb1_0 := pw_cell_below hb_ cb1_0; replace cb1_1 := pw_cell_below hb_ cb1_1; replace cb1_2 := pw_cell_below hb_ cb1_2; replace cb1_3 := pw_cell_below hb_ cb1_3; replace cb1_4 := pw_cell_below hb_ cb1_4; replace cb1_5 := pw_cell_below hb_ cb1_5; replace cb1_6 := pw_cell_below hb_ cb1_6; replace cb1_7 := pw_cell_below hb_ cb1_7; replace cb1_8 := pw_cell_below hb_ cb1_8; replace cb1_9 := pw_cell_below hb_ cb1_9; replace cb1_10 := pw_cell_below hb_ cb1_10; replace cb1_11 := pw_cell_below hb_ cb1_11; replace cb1_12 := pw_cell_below hb_ cb1_12; replace cb1_13 := pw_cell_below hb_ cb1_13; replace cb3_0 := pw_cell_below hb_ cb3_0; replace Kb1 := Aside0.mk ((hb_.block _ (blk_lt Kb1.out)).trans Kb1.out); replace Kgb := Aside0.mk ((hb_.block _ (blk_lt Kgb.out)).trans Kgb.out); replace Kb3 := Aside0.mk ((hb_.block _ (blk_lt Kb3.out)).trans Kb3.out); replace HM := Aside0.mk (HM.out.below hb_); clear hb_)
      | ((with_reducible refine gate_dst (N := 4) rfl ?_); refine box_event ?hg (N := 4) ?hd (cs := #[.slice none 0 0]) (t := 23) ?hr ?_; (case hd => rfl); (case hg => rfl); (case hr => first | (go_simp; done) | (go_simp; rfl)); intro b4 hb4 w7 Kb4 hb_; have Gb4 := Aside0.mk (by rw [hb4]; exact HB.out.size : W.heap.size ≤ b4); have Nb1_b4 := Aside0.mk (fun e => by have := blk_lt Kb1.out; omega : b1 ≠ b4); have Ngb_b4 := Aside0.mk (fun e => by have := blk_lt Kgb.out; omega : gb ≠ b4); have Nb3_b4 := Aside0.mk (fun e => by have := blk_lt Kb3.out; omega : b3 ≠ b4); have Nb4 := Aside0.mk (HHR.out.apart hb4); replace HB := Aside0.mk (below_step HB.out hb_); clear hb4; replace cb1_0 := pw_cell_below hb_ cb1_0; replace cb1_1 := pw_cell_below hb_ cb1_1; replace cb1_2 := pw_cell_below hb_ cb1_2; replace cb1_3 := pw_cell_below hb_ cb1_3; replace cb1_4 := pw_cell_below hb_ cb1_4; replace cb1_5 := pw_cell_below hb_ cb1_5; replace cb1_6 := pw_cell_below hb_ cb1_6; replace cb1_7 := pw_cell_below hb_ cb1_7; replace cb1_8 := pw_cell_below hb_ cb1_8; replace cb1_9 := pw_cell_below hb_ cb1_9; replace cb1_10 := pw_cell_below hb_ cb1_10; replace cb1_11 := pw_cell_below hb_ cb1_11; replace cb1_12 := pw_cell_below hb_ cb1_12; replace cb1_13 := pw_cell_below hb_ cb1_13; replace cb3_0 := pw_cell_below hb_ cb3_0; replace Kb1 := Aside0.mk ((hb_.block _ (blk_lt Kb1.out)).trans Kb1.out); replace Kgb := Aside0.mk ((hb_.block _ (blk_lt Kgb.out)).trans Kgb.out); replace Kb3 := Aside0.mk ((hb_.block _ (blk_lt Kb3.out)).trans Kb3.out); replace HM := Aside0.mk (HM.out.below hb_); replace HHR := Aside0.mk (HHR.out.below hb_); clear hb_; replace Kb4 := Aside0.mk Kb4)
      | (refine store_one rfl 23 (.tmp 4) (.tmp 13) rfl rfl b4 (.slice Ac (hs.filter fun x => !decide (x < floor)).length cc) 23 _ rfl rfl Kb4.out size23 (by simp [Value.oneCell']) ?_; intro w8 k_ g_; replace HB := Aside0.mk (HB.out.grown g_ HB.out.size (fun r e => by cases e; exact Gb4.out)); replace HM := Aside0.mk (HM.out.kept g_ (fun e => by cases e; obtain ⟨o, ho, hcl⟩ := map_obj HM.out; have := Kb4.out; rw [ho] at this; cases this; cases hcl)); replace HHR := Aside0.mk (HHR.out.grownB g_ Nb4.out); replace Kb1 := Aside0.mk (blk_grown Kb1.out g_ (fun e => by cases e; exact Nb1_b4.out rfl)); replace Kgb := Aside0.mk (blk_grown Kgb.out g_ (fun e => by cases e; exact Ngb_b4.out rfl)); replace Kb3 := Aside0.mk (blk_grown Kb3.out g_ (fun e => by cases e; exact Nb3_b4.out rfl)); clear Kb4; have Kb4 := Aside0.mk k_; clear k_ g_; clear cb1_0; clear cb1_1; clear cb1_2; clear cb1_3; clear cb1_4; clear cb1_5; clear cb1_6; clear cb1_7; clear cb1_8; clear cb1_9; clear cb1_10; clear cb1_11; clear cb1_12; clear cb1_13; clear cb3_0; have cb1_0 := blk_cell Kb1.out 0; have cb1_1 := blk_cell Kb1.out 1; have cb1_2 := blk_cell Kb1.out 2; have cb1_3 := blk_cell Kb1.out 3; have cb1_4 := blk_cell Kb1.out 4; have cb1_5 := blk_cell Kb1.out 5; have cb1_6 := blk_cell Kb1.out 6; have cb1_7 := blk_cell Kb1.out 7; have cb1_8 := blk_cell Kb1.out 8; have cb1_9 := blk_cell Kb1.out 9; have cb1_10 := blk_cell Kb1.out 10; have cb1_11 := blk_cell Kb1.out 11; have cb1_12 := blk_cell Kb1.out 12; have cb1_13 := blk_cell Kb1.out 13; have cb3_0 := blk_cell Kb3.out 0; have cb4_0 := blk_cell Kb4.out 0; simp only [List.getElem?_toArray, List.getElem?_cons_zero, List.getElem?_cons_succ] at cb1_0 cb1_1 cb1_2 cb1_3 cb1_4 cb1_5 cb1_6 cb1_7 cb1_8 cb1_9 cb1_10 cb1_11 cb1_12 cb1_13 cb3_0 cb4_0)
      | (go_at_call 70; refine (call_calls _ cb).mono ?_; rintro e w9 ⟨bi, rfl, hbi, hb_⟩; have HBI := Aside0.mk hbi; clear hbi; replace HB := Aside0.mk (below_step HB.out hb_); replace cb1_0 := pw_cell_below hb_ cb1_0; replace cb1_1 := pw_cell_below hb_ cb1_1; replace cb1_2 := pw_cell_below hb_ cb1_2; replace cb1_3 := pw_cell_below hb_ cb1_3; replace cb1_4 := pw_cell_below hb_ cb1_4; replace cb1_5 := pw_cell_below hb_ cb1_5; replace cb1_6 := pw_cell_below hb_ cb1_6; replace cb1_7 := pw_cell_below hb_ cb1_7; replace cb1_8 := pw_cell_below hb_ cb1_8; replace cb1_9 := pw_cell_below hb_ cb1_9; replace cb1_10 := pw_cell_below hb_ cb1_10; replace cb1_11 := pw_cell_below hb_ cb1_11; replace cb1_12 := pw_cell_below hb_ cb1_12; replace cb1_13 := pw_cell_below hb_ cb1_13; replace cb3_0 := pw_cell_below hb_ cb3_0; replace cb4_0 := pw_cell_below hb_ cb4_0; replace Kb1 := Aside0.mk ((hb_.block _ (blk_lt Kb1.out)).trans Kb1.out); replace Kgb := Aside0.mk ((hb_.block _ (blk_lt Kgb.out)).trans Kgb.out); replace Kb3 := Aside0.mk ((hb_.block _ (blk_lt Kb3.out)).trans Kb3.out); replace Kb4 := Aside0.mk ((hb_.block _ (blk_lt Kb4.out)).trans Kb4.out); replace HM := Aside0.mk (HM.out.below hb_); replace HHR := Aside0.mk (HHR.out.below hb_); clear hb_)
      | fail)
  have HMB := Aside0.mk HM.out.lt
  refine (wpIn_wide (n := 3)).1 ?_
  refine rangeK (gf := 112) (lb := #[.pointer (some ⟨bi, 0, none⟩)]) rfl (enters_of Tryz.func112 (by kernel_rfl) rfl) (call1_seq bi cb ob A c l W w9 HC.out HB.out HBI.out) (fun _ _ _ h k => h.trans k) (fun W' l' o o' hl h ho => KC.put W' l' o o' (Nat.le_trans HB.out.size hl) h ho) (Below.refl _ _) (fun _ => rfl)
    (fun pre W' => JobsAt W' mb (2 * pre.length) (fun z => ∃ q ∈ pre, entJ l p hour floor (hs.filter fun x => !decide (x < floor)) q.f1 z) ∧ W'.heap[b1]? = some (.cells #[.pointer (some ⟨cb, 0, none⟩), .slice Ah nh ch, .int .i64 p.r0, .int .i64 p.r1, .int .i64 p.r2, .int .i64 p.r3, .int .i64 p.r4, .int .i64 p.r5, .int .i64 p.r6, .int .i64 p.r7, .int .i64 p.r8, .int .i64 hour, .int .i64 floor, .bool sw] 30 (0, 0)) ∧ W'.heap[gb]? = some (.cells #[.pointer (some ⟨cb, 0, none⟩), .slice Ah nh ch, .int .i64 p.r0, .int .i64 p.r1, .int .i64 p.r2, .int .i64 p.r3, .int .i64 p.r4, .int .i64 p.r5, .int .i64 p.r6, .int .i64 p.r7, .int .i64 p.r8, .int .i64 hour, .int .i64 floor, .bool sw, .map (some mb)] 144 (0, 0)) ∧ W'.heap[b3]? = some (.cells #[.pointer (some ⟨gb, 0, none⟩)] 142 (0, 0)) ∧ W'.heap[b4]? = some (.cells #[.slice Ac (hs.filter fun x => !decide (x < floor)).length cc] 23 (0, 0)) ∧ Hrs W' Ac (hs.filter fun x => !decide (x < floor)) ∧ Below W.heap.size W W') (fun _ _ _ => False) ?hI (fun _ _ _ _ _ hs _ _ => hs) ?h0
    (fun y a' W' => ∃ b5, W'.heap[b5]? = some (.cells #[.int .i64 y.f1.f0.f0, .int .i64 y.f1.f0.f1, .int .i64 y.f1.f1, .int .i64 y.f1.f2, .int .i64 y.f1.f3, .bool y.f1.f4] 43 (0, 0)) ∧ a' = { tmps := #[.agg #[.pointer (some ⟨cb, 0, none⟩), .slice Ah nh ch, .int .i64 p.r0, .int .i64 p.r1, .int .i64 p.r2, .int .i64 p.r3, .int .i64 p.r4, .int .i64 p.r5, .int .i64 p.r6, .int .i64 p.r7, .int .i64 p.r8, .int .i64 hour, .int .i64 floor, .bool sw], .pointer (some ⟨b1, 0, none⟩), .map none, .pointer (some ⟨b3, 0, none⟩), .pointer (some ⟨b4, 0, none⟩), .pointer (some ⟨b5, 0, none⟩), undef, undef, .agg #[.pointer (some ⟨cb, 0, none⟩), .slice Ah nh ch, .int .i64 p.r0, .int .i64 p.r1, .int .i64 p.r2, .int .i64 p.r3, .int .i64 p.r4, .int .i64 p.r5, .int .i64 p.r6, .int .i64 p.r7, .int .i64 p.r8, .int .i64 hour, .int .i64 floor, .bool sw], .map (some mb), .agg #[.pointer (some ⟨cb, 0, none⟩), .slice Ah nh ch, .int .i64 p.r0, .int .i64 p.r1, .int .i64 p.r2, .int .i64 p.r3, .int .i64 p.r4, .int .i64 p.r5, .int .i64 p.r6, .int .i64 p.r7, .int .i64 p.r8, .int .i64 hour, .int .i64 floor, .bool sw, .map (some mb)], .pointer (some ⟨gb, 0, none⟩), .pointer (some ⟨gb, 0, none⟩), .slice Ac (hs.filter fun x => !decide (x < floor)).length cc, .pointer (some ⟨b1, 0, none⟩), .pointer (some ⟨cb, 0, none⟩), .func (.func 112) #[] #[.pointer (some ⟨bi, 0, none⟩)], .agg #[.int .i64 y.f1.f0.f0, .int .i64 y.f1.f0.f1, .int .i64 y.f1.f1, .int .i64 y.f1.f2, .int .i64 y.f1.f3, .bool y.f1.f4], undef, undef, undef, undef, undef, undef, undef, undef, undef, undef, undef, undef, undef, undef, undef, undef, undef, undef, undef, undef, undef, undef, undef], defers := [] }) ?hAx ?assign ?body ?done ?stop
  case hI =>
    rintro pre X Y row ⟨hM, k1, kg, k3, k4, hH, hB⟩ hg hr
    have hr2 : ∀ r, row = some r → ∃ o : Obj, X.heap[r]? = some o ∧ o.isCells = false := fun r e => (hr r e).2
    exact ⟨hM.kept hg (fun e => by have := (hr mb e.symm).1; have := HMB.out; omega), blk_turn k1 hg hr2, blk_turn kg hg hr2, blk_turn k3 hg hr2, blk_turn k4 hg hr2, hH.grown hg hr2, hB.grown hg hB.size (fun k e => by have := (hr k e).1; have := HB.out.size; omega)⟩
  case h0 => exact ⟨HM.out.weaken (Nat.le_refl _) (fun z => by simp), Kb1.out, Kgb.out, Kb3.out, Kb4.out, HHR.out, HB.out⟩
  case hAx =>
    rintro x a' _ X Y row ⟨b5, h5, rfl⟩ hg hr
    exact ⟨b5, blk_turn h5 hg (fun r e => (hr r e).2), rfl⟩
  case assign =>
    rintro q pre y W5 K hsz ⟨hM, k1, kg, k3, k4, hH, hB⟩ hK
    have HK := Aside0.mk hK
    have J1 := Aside0.mk hM
    have J2 := Aside0.mk k1
    have J3 := Aside0.mk kg
    have J4 := Aside0.mk k3
    have J5 := Aside0.mk k4
    have J6 := Aside0.mk hH
    have J7 := Aside0.mk hB
    clear hK hM k1 kg k3 k4 hH hB hsz
    simp only [encE1]
    gi_wp2
    have hal : Below W5.heap.size W5 (W5.alloc (.cells #[.int .i64 y.f1.f0.f0, .int .i64 y.f1.f0.f1, .int .i64 y.f1.f1, .int .i64 y.f1.f2, .int .i64 y.f1.f3, .bool y.f1.f4] 43)) := below_alloc (Below.refl _ _) _
    exact HK.out _ _ ((keeps_below hal).from _) (KC.of_below hal J7.out.size) ⟨J1.out.below hal, (hal.block _ (blk_lt J2.out)).trans J2.out, (hal.block _ (blk_lt J3.out)).trans J3.out, (hal.block _ (blk_lt J4.out)).trans J4.out, (hal.block _ (blk_lt J5.out)).trans J5.out, J6.out.below hal, below_step J7.out hal⟩ ⟨W5.heap.size, blk_new W5 _, rfl⟩
  case body =>
    rintro q pre y a' W5 hl hlt ⟨hM, k1, kg, k3, k4, hH, hB⟩ ⟨b5, h5, rfl⟩ hN hSp
    have hy : y ∈ l := by
      obtain ⟨t, ht⟩ := hSp
      rw [← ht]; simp
    have J1 := Aside0.mk hM
    have J2 := Aside0.mk k1
    have J3 := Aside0.mk kg
    have J4 := Aside0.mk k3
    have J5 := Aside0.mk k4
    have J6 := Aside0.mk hH
    have J7 := Aside0.mk hB
    have J8 := Aside0.mk (HWF.out y hy)
    have J9 := Aside0.mk (show 2 * pre.length + 1 < maxLen by have := HSZ.out; unfold maxLen; omega)
    have c3_0 : W5.cell? ⟨b3, 0, none⟩ = some (.pointer (some ⟨gb, 0, none⟩)) := (blk_cell k3 0).trans rfl
    have c4_0 : W5.cell? ⟨b4, 0, none⟩ = some (.slice Ac (hs.filter fun x => !decide (x < floor)).length cc) := (blk_cell k4 0).trans rfl
    have cb5_0 := blk_cell h5 0; have cb5_1 := blk_cell h5 1; have cb5_2 := blk_cell h5 2; have cb5_3 := blk_cell h5 3; have cb5_4 := blk_cell h5 4; have cb5_5 := blk_cell h5 5; simp only [List.getElem?_toArray, List.getElem?_cons_zero, List.getElem?_cons_succ] at cb5_0 cb5_1 cb5_2 cb5_3 cb5_4 cb5_5
    clear hM k1 kg k3 k4 hH hB h5 hl hlt hN hSp hy
    gi_upto_region 5 with fail
    refine regionIn_lit (by kernel_rfl) (fun ⟨_, _, h⟩ => h) ?_
    go_wp2_with (first
      | (go_at_call 71; refine (entry_calls W5 gb cb ob A c l Ah nh ch p hour floor sw mb (2 * pre.length) _ y.f1 Ac (hs.filter fun x => !decide (x < floor)).length cc (hs.filter fun x => !decide (x < floor)) J3.out (HC.out.below J7.out) HR.out (by have := HSZ.out; omega) HOK.out HH.out J1.out J9.out J8.out J6.out rfl).mono ?_; rintro e w6 ⟨⟨vv, rfl⟩, hM6, hg6⟩; have H6 := Aside0.mk hM6; have G6 := Aside0.mk hg6; clear hM6 hg6)
      | fail)
    have hlt5 := HMB.out
    have hmap : ∃ o, W5.heap[mb]? = some o ∧ o.isCells = false := map_obj J1.out
    have hkc : KC W.heap.size W5 w6 := ⟨(Below.refl _ _).grown G6.out J7.out.size (fun r e => by cases e; exact Gmb.out), fun k cs t fr hk => (G6.out.block k (blk_lt hk) (fun e => by cases e; obtain ⟨o, ho, hcl⟩ := hmap; rw [ho] at hk; cases hk; cases hcl)).trans hk⟩
    exact ⟨KeepsFrom.of_grownBy G6.out (fun r e => by cases e; exact hlt5), hkc,
      H6.out.weaken (by simp; omega) (fun z => by
        constructor
        · rintro ⟨q, hq, h⟩
          rcases List.mem_append.1 hq with hq | hq
          · exact .inr ⟨q, hq, h⟩
          · rw [List.mem_singleton.1 hq] at h; exact .inl h
        · rintro (h | ⟨q, hq, h⟩)
          · exact ⟨y, by simp, h⟩
          · exact ⟨q, List.mem_append_left _ hq, h⟩),
      hkc.2 _ _ _ _ J2.out, hkc.2 _ _ _ _ J3.out, hkc.2 _ _ _ _ J4.out, hkc.2 _ _ _ _ J5.out,
      J6.out.grown G6.out (fun r e => by cases e; exact hmap), J7.out.trans hkc.1⟩
  case done =>
    rintro D xs W5 hD rfl ⟨hM, k1, kg, k3, k4, hH, hB⟩ hdef
    have HD := Aside0.mk hdef
    have HDW := Aside0.mk (Nat.le_trans HB.out.size hD)
    have HDM := Aside0.mk (show D ≠ mb by have := HMB.out; omega)
    have J1 := Aside0.mk hM
    have J2 := Aside0.mk k1
    have J3 := Aside0.mk kg
    have J6 := Aside0.mk hH
    have J7 := Aside0.mk hB
    have J4 := Aside0.mk k3
    have c3_0 : W5.cell? ⟨b3, 0, none⟩ = some (.pointer (some ⟨gb, 0, none⟩)) := (blk_cell k3 0).trans rfl
    have c4_0 : W5.cell? ⟨b4, 0, none⟩ = some (.slice Ac (hs.filter fun x => !decide (x < floor)).length cc) := (blk_cell k4 0).trans rfl
    clear hM k1 kg k3 k4 hH hB hdef hD
    generalize hcnt : (hs.filter fun x => !decide (x < floor)) = cnt at *
    have HCNT := Aside0.mk hcnt
    clear hcnt
    go_wp2
    go_loopw [24] (fun i wr => ∃ k : Nat, k ≤ cnt.length ∧ i = .int .i64 k ∧ Aside0 (JobsAt wr mb (2 * xs.length + k) (fun z => (∃ q ∈ xs, entJ xs p hour floor cnt q.f1 z) ∨ ∃ h ∈ cnt.take k, buildJ xs p hour h z)) ∧ Aside0 (wr.heap[b1]? = some (.cells #[.pointer (some ⟨cb, 0, none⟩), .slice Ah nh ch, .int .i64 p.r0, .int .i64 p.r1, .int .i64 p.r2, .int .i64 p.r3, .int .i64 p.r4, .int .i64 p.r5, .int .i64 p.r6, .int .i64 p.r7, .int .i64 p.r8, .int .i64 hour, .int .i64 floor, .bool sw] 30 (0, 0))) ∧ Aside0 (wr.heap[gb]? = some (.cells #[.pointer (some ⟨cb, 0, none⟩), .slice Ah nh ch, .int .i64 p.r0, .int .i64 p.r1, .int .i64 p.r2, .int .i64 p.r3, .int .i64 p.r4, .int .i64 p.r5, .int .i64 p.r6, .int .i64 p.r7, .int .i64 p.r8, .int .i64 hour, .int .i64 floor, .bool sw, .map (some mb)] 144 (0, 0))) ∧ Aside0 (wr.heap[b3]? = some (.cells #[.pointer (some ⟨gb, 0, none⟩)] 142 (0, 0))) ∧ Aside0 (Hrs wr Ac cnt) ∧ Aside0 (Below W.heap.size W wr) ∧ Aside0 (wr.heap[D]? = some (.deferred (some []))))
      (fun i _ => cnt.length - (intOf i).toNat)
    case atStart => exact ⟨0, Nat.zero_le _, rfl, ⟨J1.out.weaken (by omega) (fun z => by simp)⟩, J2, J3, J4, J6, J7, HD⟩
    case round =>
      obtain ⟨k, hk, rfl, M1, R1, R2, R3, R4, R5, R6⟩ := hrel
      have c3 : wr.cell? ⟨b3, 0, none⟩ = some (.pointer (some ⟨gb, 0, none⟩)) := (blk_cell R3.out 0).trans rfl
      have c13 : wr.cell? ⟨b1, 13, none⟩ = some (.bool sw) := (blk_cell R1.out 13).trans rfl
      clear c3_0 c4_0
      by_cases hlt : k < cnt.length
      · obtain ⟨g, hA, hc⟩ := R4.out.at_.resolve_left (by intro e; rw [e] at hlt; simp at hlt)
        have hx := hc k hlt
        obtain ⟨x, hxx⟩ : ∃ x, cnt[k] = x := ⟨_, rfl⟩
        rw [hxx] at hx
        have HX := Aside0.mk (show cnt.take (k + 1) = cnt.take k ++ [x] by rw [← hxx, List.take_succ_eq_append_getElem hlt])
        have HLE := Aside0.mk R4.out.le
        have HLT := Aside0.mk (show 2 * xs.length + k < maxLen by have := HSZ.out; have := HLE.out; unfold maxLen; omega)
        subst hA
        clear hc hxx
        have hkb : (k : Int) < 9223372036854775807 := by have := HLE.out; omega
        go_wp2_with (first
          | (go_at_call 72; refine (gbuild_calls wr gb cb ob A c xs Ah nh ch p hour floor sw mb (2 * xs.length + k) _ x 0 R2.out (HC.out.below R5.out) HR.out (by have := HSZ.out; omega) HOK.out HH.out M1.out HLT.out).mono ?_; rintro e w6 ⟨⟨vv, rfl⟩, hM6, hg6⟩; have H6 := Aside0.mk hM6; have G6 := Aside0.mk hg6; clear hM6 hg6)
          | fail)
        go_roundw
        case rel =>
          have ne : some mb ≠ some D := fun e => HDM.out (Option.some.inj e).symm
          have kb : ∀ {b : Nat} {cs : Array Value} {t : TypeId} {fr : Nat × Nat}, wr.heap[b]? = some (.cells cs t fr) → w6.heap[b]? = some (.cells cs t fr) := fun {b cs t fr} h => (G6.out.block b (blk_lt h) (fun e => by cases e; obtain ⟨o, ho, hcl⟩ := map_obj M1.out; rw [ho] at h; cases h; cases hcl)).trans h
          exact ⟨k + 1, by omega, by go_num, ⟨H6.out.weaken (by omega) (fun z => by
              rw [HX.out]
              constructor
              · rintro (h | ⟨h, hm, hb⟩)
                · exact .inr (.inl h)
                · rcases List.mem_append.1 hm with hm | hm
                  · exact .inr (.inr ⟨h, hm, hb⟩)
                  · rw [List.mem_singleton.1 hm] at hb; exact .inl hb
              · rintro (hb | h | ⟨h, hm, hb⟩)
                · exact .inr ⟨x, by simp, hb⟩
                · exact .inl h
                · exact .inr ⟨h, List.mem_append_left _ hm, hb⟩)⟩,
            ⟨kb R1.out⟩, ⟨kb R2.out⟩, ⟨kb R3.out⟩, ⟨R4.out.grown G6.out (fun r e => by cases e; exact map_obj M1.out)⟩, ⟨R5.out.grown G6.out R5.out.size (fun r e => by cases e; exact Gmb.out)⟩,
            ⟨(G6.out.block D (Array.getElem?_eq_some_iff.1 R6.out).1 (fun e => HDM.out (Option.some.inj e))).trans R6.out⟩⟩
        case measure => simp [intOf]; omega
      · obtain rfl : k = cnt.length := by omega
        have c14 : wr.cell? ⟨gb, 14, none⟩ = some (.map (some mb)) := (blk_cell R2.out 14).trans rfl
        have HLE := Aside0.mk R4.out.le
        have HLT := Aside0.mk (show 2 * xs.length + cnt.length < maxLen by have := HSZ.out; have := HLE.out; unfold maxLen; omega)
        have HJ4 := Aside0.mk (show (Job.mk 4 0 0).wf from ⟨by show in64 4; unfold in64; omega, by show in64 0; unfold in64; omega, by show in64 0; unfold in64; omega⟩)
        clear hlt hk
        cases sw
        · go_wp2
          refine ⟨by simp, .inl ⟨_, _, rfl, run_takeDeferred R6.out, ?_⟩⟩
          exact ⟨_, results_tmp rfl _ _ _, mb, _, rfl, (M1.out.kept (grownBy_putObj' _ D _) (fun e => HDM.out (Option.some.inj e).symm)).weaken (Nat.le_refl _) (fun z => by unfold gathM; rw [HCNT.out]; simp), by have := HSZ.out; have := HLE.out; omega, Gmb.out, R5.out.grown (grownBy_putObj' _ D _) R5.out.size (fun k e => by cases e; exact HDW.out)⟩
        · go_wp2_with (first
            | (go_at_call 73; refine (gput_calls wr gb cb Ah nh ch p hour floor true mb (2 * xs.length + cnt.length) _ 4 0 0 R2.out M1.out HLT.out HJ4.out).mono ?_; rintro e w6 ⟨⟨vv, rfl⟩, hM6, hg6⟩; have H6 := Aside0.mk hM6; have kb : ∀ {b : Nat} {cs : Array Value} {t : TypeId} {fr : Nat × Nat}, wr.heap[b]? = some (.cells cs t fr) → w6.heap[b]? = some (.cells cs t fr) := fun {b cs t fr} h => (hg6.block b (blk_lt h) (fun e => by cases e; obtain ⟨o, ho, hcl⟩ := map_obj M1.out; rw [ho] at h; cases h; cases hcl)).trans h; clear c3 c13 c14; have c3 : w6.cell? ⟨b3, 0, none⟩ = some (.pointer (some ⟨gb, 0, none⟩)) := (blk_cell (kb R3.out) 0).trans rfl; have c14 : w6.cell? ⟨gb, 14, none⟩ = some (.map (some mb)) := (blk_cell (kb R2.out) 14).trans rfl; have H7 := Aside0.mk (R5.out.grown hg6 R5.out.size (fun r e => by cases e; exact Gmb.out)); have H8 := Aside0.mk ((hg6.block D (Array.getElem?_eq_some_iff.1 R6.out).1 (fun e => HDM.out (Option.some.inj e))).trans R6.out); clear hM6 hg6 kb)
            | fail)
          refine ⟨by simp, .inl ⟨_, _, rfl, run_takeDeferred H8.out, ?_⟩⟩
          exact ⟨_, results_tmp rfl _ _ _, mb, _, rfl, (H6.out.kept (grownBy_putObj' _ D _) (fun e => HDM.out (Option.some.inj e).symm)).weaken (Nat.le_refl _) (fun z => by unfold gathM; rw [HCNT.out, List.take_length]; simp only [true_and]; exact ⟨fun h => by rcases h with h | h | h <;> simp [h], fun h => by rcases h with h | h | h <;> simp [h]⟩), by have := HSZ.out; have := HLE.out; omega, Gmb.out, H7.out.grown (grownBy_putObj' _ D _) H7.out.size (fun k e => by cases e; exact HDW.out)⟩
  case stop =>
    rintro D c' pre W9 _ _ h _
    exact h.elim
end Go.Proofs.YthhmfeiefbnhcaaGreat.Due
namespace Go.Proofs.YthhmfeiefbnhcaaGreat.Due
open Go.RowKit Go.Maps Go.Proofs.YthhmfeiefbnhcaaGreat.PDueParts Go.Proofs.YthhmfeiefbnhcaaGreatW.PrintWords Go.Proofs.YthhmfeiefbnhcaaGreatW.PrintLast
set_option linter.unusedVariables false
set_option linter.unusedSimpArgs false
theorem JobsAt.look_ok {w : World} {b n : Nat} {M : Job → Prop} (h : JobsAt w b n M) (j : Job) (hj : j.wf) :
    ∃ (c : Int) (r : Bool), (Instr.lookup 79 (.map (some b)) (.agg #[.int .i64 j.k, .int .i64 j.t, .int .i64 j.i]) true).run Tryz.prog w = .ok (.tuple #[.int .i64 c, .bool r]) w ∧ (r = true ↔ M j) := by
  obtain ⟨D, h1, h2⟩ := h.own
  obtain ⟨v, ps, hrun, hv⟩ := h1.look_ok law84 Tryz.underlying79 (Tryz.zeroValue2 w) (plainElem_int Tryz.underlying2 (by decide)) (keyOf_job j hj)
  obtain ⟨c, rfl, hc, hwc⟩ := plainElem_int_inv Tryz.underlying2 hv
  exact ⟨c, _, hrun, h2 j hj⟩
set_option maxRecDepth 100000 in
set_option maxHeartbeats 4000000 in
theorem needs_calls (W : World) (cb ob : Nat) (A : Option Addr) (c : Nat) (l : List S183) (Ah : Option Addr) (nh ch : Nat) (p : Pol) (hour floor : Int) (sw : Bool) (hs : List Int) (k t i : Int)
    (hC : CatAt W cb ob A c l) (hr : Rising l) (hsz : l.length ≤ 1000) (hok : p.ok) (hh : 0 ≤ hour ∧ hour ≤ 1099511627776) (hwf : ∀ q ∈ l, in64 q.f1.f0.f0 ∧ in64 q.f1.f0.f1)
    (hH : Kd.C (Kd.int .i64) W Ah nh hs) (hnh : nh ≤ 1000) (hn : Ah = none → ch = 0) (hz : (Job.mk k t i).wf) :
    Calls Tryz.prog 14 #[.agg #[.pointer (some ⟨cb, 0, none⟩), .slice Ah nh ch, .int .i64 p.r0, .int .i64 p.r1, .int .i64 p.r2, .int .i64 p.r3, .int .i64 p.r4, .int .i64 p.r5, .int .i64 p.r6, .int .i64 p.r7, .int .i64 p.r8, .int .i64 hour, .int .i64 floor, .bool sw], .int .i64 k, .agg #[.int .i64 t, .int .i64 i]] W fun e w' => ∃ r : Bool, e = .returned (.bool r) ∧ (r = true ↔ gathM l p hour floor (hs.filter fun x => !decide (x < floor)) sw ⟨k, t, i⟩) ∧ Below W.heap.size W w' := by
  have HC := Aside0.mk hC
  have HR := Aside0.mk hr
  have HSZ := Aside0.mk hsz
  have HOK := Aside0.mk hok
  have HH := Aside0.mk hh
  have HWF := Aside0.mk hwf
  have HHS := Aside0.mk hH
  have HNH := Aside0.mk hnh
  have HN := Aside0.mk hn
  have HZ := Aside0.mk hz
  have HB := Aside0.mk (Below.refl W.heap.size W)
  clear hC hr hsz hok hh hwf hH hnh hn hz
  go_enter Tryz.func14, Tryz.ntmps14
  go_wp2_with (first
    | ((with_reducible refine gate_dst (N := 3) rfl ?_); refine box_event ?hg (N := 3) ?hd (cs := #[.pointer (some ⟨cb, 0, none⟩), .slice Ah nh ch, .int .i64 p.r0, .int .i64 p.r1, .int .i64 p.r2, .int .i64 p.r3, .int .i64 p.r4, .int .i64 p.r5, .int .i64 p.r6, .int .i64 p.r7, .int .i64 p.r8, .int .i64 hour, .int .i64 floor, .bool sw]) (t := 30) ?hr ?_; (case hd => rfl); (case hg => rfl); (case hr => first | (go_simp; done) | (go_simp; rfl)); intro b3 hb3 w1 Kb3 hb_; have Gb3 := Aside0.mk (by rw [hb3]; exact HB.out.size : W.heap.size ≤ b3); replace HB := Aside0.mk (below_step HB.out hb_); clear hb3; clear hb_; replace Kb3 := Aside0.mk Kb3)
    | ((with_reducible refine gate_dst (N := 5) rfl ?_); refine box_event ?hg (N := 5) ?hd (cs := #[.int .i64 t, .int .i64 i]) (t := 38) ?hr ?_; (case hd => rfl); (case hg => rfl); (case hr => first | (go_simp; done) | (go_simp; rfl)); intro b5 hb5 w2 Kb5 hb_; have Gb5 := Aside0.mk (by rw [hb5]; exact HB.out.size : W.heap.size ≤ b5); have Nb3_b5 := Aside0.mk (fun e => by have := blk_lt Kb3.out; omega : b3 ≠ b5); replace HB := Aside0.mk (below_step HB.out hb_); clear hb5; replace Kb3 := Aside0.mk ((hb_.block _ (blk_lt Kb3.out)).trans Kb3.out); clear hb_; replace Kb5 := Aside0.mk Kb5)
    | fail)
  have hbd := (Below.refl w2.heap.size w2).drew
  replace HB := Aside0.mk (below_step HB.out hbd); replace Kb3 := Aside0.mk ((hbd.block _ (blk_lt Kb3.out)).trans Kb3.out); replace Kb5 := Aside0.mk ((hbd.block _ (blk_lt Kb5.out)).trans Kb5.out); clear hbd
  refine start_ (n := 11) (S := fun w' => w'.cell? ⟨b3, 0, none⟩ = some (.pointer (some ⟨cb, 0, none⟩)) ∧ w'.cell? ⟨b3, 1, none⟩ = some (.slice Ah nh ch) ∧ w'.cell? ⟨b3, 2, none⟩ = some (.int .i64 p.r0) ∧ w'.cell? ⟨b3, 3, none⟩ = some (.int .i64 p.r1) ∧ w'.cell? ⟨b3, 4, none⟩ = some (.int .i64 p.r2) ∧ w'.cell? ⟨b3, 5, none⟩ = some (.int .i64 p.r3) ∧ w'.cell? ⟨b3, 6, none⟩ = some (.int .i64 p.r4) ∧ w'.cell? ⟨b3, 7, none⟩ = some (.int .i64 p.r5) ∧ w'.cell? ⟨b3, 8, none⟩ = some (.int .i64 p.r6) ∧ w'.cell? ⟨b3, 9, none⟩ = some (.int .i64 p.r7) ∧ w'.cell? ⟨b3, 10, none⟩ = some (.int .i64 p.r8) ∧ w'.cell? ⟨b3, 11, none⟩ = some (.int .i64 hour) ∧ w'.cell? ⟨b3, 12, none⟩ = some (.int .i64 floor) ∧ w'.cell? ⟨b3, 13, none⟩ = some (.bool sw) ∧ w'.cell? ⟨b5, 0, none⟩ = some (.int .i64 t) ∧ w'.cell? ⟨b5, 1, none⟩ = some (.int .i64 i)) (ds := []) #[false, false, false, false, false, false, false, false, false, false, false] (by kernel_rfl) rfl rfl ⟨(blk_cell Kb3.out 0).trans rfl, (blk_cell Kb3.out 1).trans rfl, (blk_cell Kb3.out 2).trans rfl, (blk_cell Kb3.out 3).trans rfl, (blk_cell Kb3.out 4).trans rfl, (blk_cell Kb3.out 5).trans rfl, (blk_cell Kb3.out 6).trans rfl, (blk_cell Kb3.out 7).trans rfl, (blk_cell Kb3.out 8).trans rfl, (blk_cell Kb3.out 9).trans rfl, (blk_cell Kb3.out 10).trans rfl, (blk_cell Kb3.out 11).trans rfl, (blk_cell Kb3.out 12).trans rfl, (blk_cell Kb3.out 13).trans rfl, (blk_cell Kb5.out 0).trans rfl, (blk_cell Kb5.out 1).trans rfl⟩ ?_
  intro hHeld
  generalize hw_ : w2.drew = w3 at *
  clear hw_
  refine take_ (i := 0) (N := some 10) (v := ?_) (a' := ?_) #[true, false, false, false, false, false, false, false, false, false, false] rfl rfl (by kernel_rfl) (fun _ _ _ h => h) (Or.inl ⟨by rfl, ?_⟩) hHeld ?_ ?_
  rotate_left
  · rintro w' ⟨s0, s1, s2, s3, s4, s5, s6, s7, s8, s9, s10, s11, s12, s13, s14, s15⟩
    go_simp
    with_reducible rfl
  rotate_left
  · simp only [Act.put, List.setIfInBounds_toArray, List.set_cons_zero, List.set_cons_succ, i64_w, i32_w]
    rfl
  refine pure_ (i := 2) (N := some 12) (v := ?_) (a' := ?_) #[true, false, true, false, false, false, false, false, false, false, false] rfl rfl (by kernel_rfl) (fun _ _ _ h => h) (Or.inl ⟨by rfl, ?_⟩) ?_ ?_
  rotate_left
  · intro w'
    go_simp
    with_reducible rfl
  rotate_left
  · simp only [Act.put, List.setIfInBounds_toArray, List.set_cons_zero, List.set_cons_succ, i64_w, i32_w]
    rfl
  refine take_ (i := 3) (N := some 13) (v := ?_) (a' := ?_) #[true, false, true, true, false, false, false, false, false, false, false] rfl rfl (by kernel_rfl) (fun _ _ _ h => h) (Or.inl ⟨by rfl, ?_⟩) hHeld ?_ ?_
  rotate_left
  · rintro w' ⟨s0, s1, s2, s3, s4, s5, s6, s7, s8, s9, s10, s11, s12, s13, s14, s15⟩
    go_simp
    with_reducible rfl
  rotate_left
  · simp only [Act.put, List.setIfInBounds_toArray, List.set_cons_zero, List.set_cons_succ, i64_w, i32_w]
    rfl
  refine pure_ (i := 4) (N := some 14) (v := ?_) (a' := ?_) #[true, false, true, true, true, false, false, false, false, false, false] rfl rfl (by kernel_rfl) (fun _ _ _ h => h) (Or.inl ⟨by rfl, ?_⟩) ?_ ?_
  rotate_left
  · intro w'
    go_simp
    with_reducible rfl
  rotate_left
  · simp only [Act.put, List.setIfInBounds_toArray, List.set_cons_zero, List.set_cons_succ, i64_w, i32_w]
    rfl
  refine one_ (i := 1) (N := some 11) #[true, true, true, true, true, false, false, false, false, false, false] rfl rfl (by kernel_rfl) (by decide) (fun K hK => ?_)
  refine goes_ Tryz.func28 (by kernel_rfl) rfl #[.agg #[.pointer (some ⟨cb, 0, none⟩), .slice Ah nh ch, .int .i64 p.r0, .int .i64 p.r1, .int .i64 p.r2, .int .i64 p.r3, .int .i64 p.r4, .int .i64 p.r5, .int .i64 p.r6, .int .i64 p.r7, .int .i64 p.r8, .int .i64 hour, .int .i64 floor, .bool sw]] (by rfl) rfl rfl (by go_simp) ?_
  refine (gathered_calls w3 cb ob A c l Ah nh ch p hour floor sw hs (HC.out.below HB.out) HR.out HSZ.out HOK.out HH.out HWF.out (Kd.C_below HHS.out HB.out) HNH.out HN.out).mono ?_
  rintro e w4 ⟨mb, nn, rfl, hJ, _, _, hb4⟩
  refine ⟨_, rfl, ?_⟩
  have HJ := Aside0.mk hJ
  clear hJ
  replace HB := Aside0.mk (below_step HB.out hb4); replace Kb3 := Aside0.mk ((hb4.block _ (blk_lt Kb3.out)).trans Kb3.out); replace Kb5 := Aside0.mk ((hb4.block _ (blk_lt Kb5.out)).trans Kb5.out); clear hb4
  refine hK.out _ _ ⟨(blk_cell Kb3.out 0).trans rfl, (blk_cell Kb3.out 1).trans rfl, (blk_cell Kb3.out 2).trans rfl, (blk_cell Kb3.out 3).trans rfl, (blk_cell Kb3.out 4).trans rfl, (blk_cell Kb3.out 5).trans rfl, (blk_cell Kb3.out 6).trans rfl, (blk_cell Kb3.out 7).trans rfl, (blk_cell Kb3.out 8).trans rfl, (blk_cell Kb3.out 9).trans rfl, (blk_cell Kb3.out 10).trans rfl, (blk_cell Kb3.out 11).trans rfl, (blk_cell Kb3.out 12).trans rfl, (blk_cell Kb3.out 13).trans rfl, (blk_cell Kb5.out 0).trans rfl, (blk_cell Kb5.out 1).trans rfl⟩ (fun hHeld => ?_)
  obtain ⟨cv, rv, hrun, hrv⟩ := HJ.out.look_ok ⟨k, t, i⟩ HZ.out
  have HRV := Aside0.mk hrv
  clear hrv
  refine one_ (i := 5) (N := some 15) #[true, true, true, true, true, true, false, false, false, false, false] rfl rfl (by kernel_rfl) (by decide) (fun K hK => ?_)
  refine event_step (v := .tuple #[.int .i64 cv, .bool rv]) (w1 := w4) (by rfl) (by go_simp) ?_
  refine hK.out _ _ hHeld (fun hHeld => ?_)
  clear hrun
  refine pure_ (i := 6) (N := some 9) (v := ?_) (a' := ?_) #[true, true, true, true, true, true, true, false, false, false, false] rfl rfl (by kernel_rfl) (fun _ _ _ h => h) (Or.inl ⟨by rfl, ?_⟩) ?_ ?_
  rotate_left
  · intro w'
    go_simp
    with_reducible rfl
  rotate_left
  · simp only [Act.put, List.setIfInBounds_toArray, List.set_cons_zero, List.set_cons_succ, i64_w, i32_w]
    rfl
  refine pure_ (i := 7) (N := some 16) (v := ?_) (a' := ?_) #[true, true, true, true, true, true, true, true, false, false, false] rfl rfl (by kernel_rfl) (fun _ _ _ h => h) (Or.inl ⟨by rfl, ?_⟩) ?_ ?_
  rotate_left
  · intro w'
    go_simp
    with_reducible rfl
  rotate_left
  · simp only [Act.put, List.setIfInBounds_toArray, List.set_cons_zero, List.set_cons_succ, i64_w, i32_w]
    rfl
  refine pure_ (i := 8) (N := some 17) (v := ?_) (a' := ?_) #[true, true, true, true, true, true, true, true, true, false, false] rfl rfl (by kernel_rfl) (fun _ _ _ h => h) (Or.inl ⟨by rfl, ?_⟩) ?_ ?_
  rotate_left
  · intro w'
    go_simp
    with_reducible rfl
  rotate_left
  · simp only [Act.put, List.setIfInBounds_toArray, List.set_cons_zero, List.set_cons_succ, i64_w, i32_w]
    rfl
  refine pure_ (i := 9) (N := some 7) (v := ?_) (a' := ?_) #[true, true, true, true, true, true, true, true, true, true, false] rfl rfl (by kernel_rfl) (fun _ _ _ h => h) (Or.inl ⟨by rfl, ?_⟩) ?_ ?_
  rotate_left
  · intro w'
    go_simp
    with_reducible rfl
  rotate_left
  · simp only [Act.put, List.setIfInBounds_toArray, List.set_cons_zero, List.set_cons_succ, i64_w, i32_w]
    rfl
  refine pure_ (i := 10) (N := some 8) (v := ?_) (a' := ?_) #[true, true, true, true, true, true, true, true, true, true, true] rfl rfl (by kernel_rfl) (fun _ _ _ h => h) (Or.inl ⟨by rfl, ?_⟩) ?_ ?_
  rotate_left
  · intro w'
    go_simp
    with_reducible rfl
  rotate_left
  · simp only [Act.put, List.setIfInBounds_toArray, List.set_cons_zero, List.set_cons_succ, i64_w, i32_w]
    rfl
  refine done_ (by kernel_rfl) ?_
  go_wp2
  go_ret
  exact ⟨rv, rfl, HRV.out, HB.out⟩
end Go.Proofs.YthhmfeiefbnhcaaGreat.Due
namespace Go.Proofs.YthhmfeiefbnhcaaGreat.Due
open Go.RowKit Go.Maps Go.Proofs.YthhmfeiefbnhcaaGreat.PDueParts Go.Proofs.YthhmfeiefbnhcaaGreatW.PrintWords Go.Proofs.YthhmfeiefbnhcaaGreatW.PrintLast
set_option linter.unusedVariables false
set_option linter.unusedSimpArgs false
def Grew (w w' : World) : Prop := ∃ q os, w' = Sort.grow (w.drewN q) os
theorem Grew.refl (w : World) : Grew w w := ⟨0, #[], by simp [Sort.grow, World.drewN]⟩
theorem Grew.alloc {w w' : World} (h : Grew w w') (o : Obj) : Grew w (w'.alloc o) := by
  obtain ⟨q, os, rfl⟩ := h
  exact ⟨q, os ++ #[o], by rw [Sort.alloc_eq_grow, Sort.grow_grow]⟩
theorem Grew.drew {w w' : World} (h : Grew w w') : Grew w w'.drew := by
  obtain ⟨q, os, rfl⟩ := h
  exact ⟨q + 1, os, rfl⟩
theorem Grew.below {w w' : World} (h : Grew w w') : Below w.heap.size w w' := by
  obtain ⟨q, os, rfl⟩ := h
  exact grow_below w q os
section
variable {P : Program} {ops : Array Oper} {rest : List Oper} {o : Oper} {a : Act} {Q : Exit → Act → World → Prop}
theorem boxg_event {W0 W : World} (hG : Grew W0 W) (hgd : o.guard = none) {N : Tmp} (_hd : o.dst = some N) {cs : Array Value} {t : TypeId}
    (hrun : (execOp a.eval o).run P W = .ok (.value (.pointer (some ⟨W.heap.size, 0, none⟩))) (W.alloc (.cells cs t (0, 0))))
    (h : ∀ g, g = W.heap.size → ∀ w1, w1.heap[g]? = some (.cells cs t (0, 0)) → Below W.heap.size W w1 → Grew W0 w1 → wpList P ops Q rest (a.put o.dst (.pointer (some ⟨g, 0, none⟩))) w1) : wpList P ops Q (o :: rest) a W :=
  Kd.event_run hgd hrun (h _ rfl _ (blk_new W _) (below_alloc (Below.refl _ _) _) (hG.alloc _))
theorem event_stepN {N : Option Tmp} {Kc : Act → World → Prop} {W w1 : World} {v : Value} (hN : o.dst = N) (hw : Region.wanted o (yielded ops a.tmps) = true) (hrun : (execOp a.eval o).run P W = .ok (.value v) w1) (h : Kc (a.put N v) w1) : if Region.wanted o (yielded ops a.tmps) = true then Oper.wp P o a W Kc Q else Kc (a.put N undef) W := by
  subst hN
  exact event_step hw hrun h
end
def cmpI (x y : Int) : Int := if x < y then -1 else if y < x then 1 else 0
theorem nan_calls (W : World) (x : Int) : Calls Tryz.prog 77 #[.int .i64 x] W fun e w' => e = .returned (.bool false) ∧ w' = W := by
  go_enter Tryz.func77, Tryz.ntmps77
  go_wp2
  go_ret
  exact ⟨by simp, rfl⟩
theorem nan64_calls (W : World) (x : Int) : Calls Tryz.prog 78 #[.int .i64 x] W fun e w' => e = .returned (.bool false) ∧ w' = W := by
  go_enter Tryz.func78, Tryz.ntmps78
  go_wp2
  go_ret
  exact ⟨by simp, rfl⟩
theorem cmp_calls (W : World) (x y : Int) : Calls Tryz.prog 33 #[.int .i64 x, .int .i64 y] W fun e w' => e = .returned (.int .i64 (cmpI x y)) ∧ w' = W := by
  unfold cmpI
  by_cases h1 : x < y
  · rw [if_pos h1]
    go_enter Tryz.func33, Tryz.ntmps33
    go_wp2_with (go_at_call 77; refine (nan_calls _ _).mono ?_; rintro e w' ⟨rfl, rfl⟩)
    go_ret
    exact ⟨rfl, rfl⟩
  · rw [if_neg h1]
    by_cases h2 : y < x
    · rw [if_pos h2]
      go_enter Tryz.func33, Tryz.ntmps33
      go_wp2_with (go_at_call 77; refine (nan_calls _ _).mono ?_; rintro e w' ⟨rfl, rfl⟩)
      go_ret
      exact ⟨rfl, rfl⟩
    · rw [if_neg h2]
      go_enter Tryz.func33, Tryz.ntmps33
      go_wp2_with (go_at_call 77; refine (nan_calls _ _).mono ?_; rintro e w' ⟨rfl, rfl⟩)
      go_ret
      exact ⟨rfl, rfl⟩
theorem cmp64_calls (W : World) (x y : Int) : Calls Tryz.prog 34 #[.int .i64 x, .int .i64 y] W fun e w' => e = .returned (.int .i64 (cmpI x y)) ∧ w' = W := by
  unfold cmpI
  by_cases h1 : x < y
  · rw [if_pos h1]
    go_enter Tryz.func34, Tryz.ntmps34
    go_wp2_with (go_at_call 78; refine (nan64_calls _ _).mono ?_; rintro e w' ⟨rfl, rfl⟩)
    go_ret
    exact ⟨rfl, rfl⟩
  · rw [if_neg h1]
    by_cases h2 : y < x
    · rw [if_pos h2]
      go_enter Tryz.func34, Tryz.ntmps34
      go_wp2_with (go_at_call 78; refine (nan64_calls _ _).mono ?_; rintro e w' ⟨rfl, rfl⟩)
      go_ret
      exact ⟨rfl, rfl⟩
    · rw [if_neg h2]
      go_enter Tryz.func34, Tryz.ntmps34
      go_wp2_with (go_at_call 78; refine (nan64_calls _ _).mono ?_; rintro e w' ⟨rfl, rfl⟩)
      go_ret
      exact ⟨rfl, rfl⟩
def orI (x y : Int) : Int := if x = 0 then y else x
theorem or_calls (W : World) (b : Nat) (x y : Int) (h0 : W.cell? ⟨b, 0, none⟩ = some (.int .i64 x)) (h1 : W.cell? ⟨b, 1, none⟩ = some (.int .i64 y)) :
    Calls Tryz.prog 32 #[.slice (some ⟨b, 0, none⟩) 2 2] W fun e w' => e = .returned (.int .i64 (orI x y)) ∧ w' = W := by
  unfold orI
  by_cases hx : x = 0
  · subst hx
    rw [if_pos rfl]
    by_cases hy : y = 0
    · subst hy
      go_enter Tryz.func32, Tryz.ntmps32
      go_wp2
      refine wp_loop_rounds 3 ?_
      rw [rounds_succ]; go_wp2
      rw [rounds_succ]; go_wp2
      rw [rounds_succ]; go_wp2
      go_ret
      exact ⟨rfl, rfl⟩
    · have hy' : (y == 0) = false := by simpa using hy
      have hy2 : (y != 0) = true := by simpa using hy
      go_enter Tryz.func32, Tryz.ntmps32
      go_wp2
      refine wp_loop_rounds 3 ?_
      rw [rounds_succ]; go_wp2
      rw [rounds_succ]; go_wp2
      go_ret
      exact ⟨rfl, rfl⟩
  · rw [if_neg hx]
    have hy' : (x == 0) = false := by simpa using hx
    have hy2 : (x != 0) = true := by simpa using hx
    go_enter Tryz.func32, Tryz.ntmps32
    go_wp2
    refine wp_loop_rounds 3 ?_
    rw [rounds_succ]; go_wp2
    go_ret
    exact ⟨rfl, rfl⟩
def numD (D : DataW Unit) (j : Job) : Int := match D.atKey j.lit (.lit (.int .i64 0)) with | .lit (.int .i64 c) => c | _ => 0
theorem look_num {w : World} {b n : Nat} {D : DataW Unit} (h : w.ownsMap Tryz.prog 84 (plainElem Tryz.prog 2) b n D) (j : Job) (hj : j.wf) :
    (Instr.lookup 79 (.map (some b)) (.agg #[.int .i64 j.k, .int .i64 j.t, .int .i64 j.i]) false).run Tryz.prog w = .ok (.int .i64 (numD D j)) w := by
  obtain ⟨c, hrun, hat, hwc⟩ := h.lookup_int law84 Tryz.underlying79 Tryz.underlying2 (Tryz.zeroValue2 w) (keyOf_job j hj)
  have : numD D j = c := by unfold numD; rw [hat]
  rw [this]
  exact hrun
def cfJ (D : DataW Unit) (a b : Job) : Int := orI (cmpI a.k b.k) (cmpI (numD D a) (numD D b))
set_option maxRecDepth 100000 in
set_option maxHeartbeats 4000000 in
theorem needed1_calls (W : World) (bl mb nn : Nat) (D : DataW Unit) (a b : Job) (ha : a.wf) (hb : b.wf) (hl : W.cell? ⟨bl, 0, none⟩ = some (.map (some mb))) (ho : W.ownsMap Tryz.prog 84 (plainElem Tryz.prog 2) mb nn D) :
    Calls Tryz.prog 31 #[.agg #[.int .i64 a.k, .int .i64 a.t, .int .i64 a.i], .agg #[.int .i64 b.k, .int .i64 b.t, .int .i64 b.i], .pointer (some ⟨bl, 0, none⟩)] W fun e w' => e = .returned (.int .i64 (cfJ D a b)) ∧ Grew W w' := by
  have HA := Aside0.mk ha
  have HBJ := Aside0.mk hb
  have HL := hl
  have HO := Aside0.mk ho
  have HB := Aside0.mk (Below.refl W.heap.size W)
  have GR := Aside0.mk (Grew.refl W)
  clear ha hb hl ho
  go_enter Tryz.func31, Tryz.ntmps31
  go_wp2_with (first
    | ((with_reducible refine gate_dst (N := 3) rfl ?_); refine boxg_event GR.out ?hg (N := 3) ?hd (cs := #[.int .i64 a.k, .int .i64 a.t, .int .i64 a.i]) (t := 84) ?hr ?_; (case hd => rfl); (case hg => rfl); (case hr => first | (go_simp; done) | (go_simp; rfl)); intro b3 hb3 w1 Kb3 hb_ hg_; replace GR := Aside0.mk hg_; clear hg_; have Gb3 := Aside0.mk (by rw [hb3]; exact HB.out.size : W.heap.size ≤ b3); replace HB := Aside0.mk (below_step HB.out hb_); clear hb3; replace HL := pw_cell_below hb_ HL; clear hb_; replace Kb3 := Aside0.mk Kb3)
    | ((with_reducible refine gate_dst (N := 4) rfl ?_); refine boxg_event GR.out ?hg (N := 4) ?hd (cs := #[.int .i64 b.k, .int .i64 b.t, .int .i64 b.i]) (t := 84) ?hr ?_; (case hd => rfl); (case hg => rfl); (case hr => first | (go_simp; done) | (go_simp; rfl)); intro b4 hb4 w2 Kb4 hb_ hg_; replace GR := Aside0.mk hg_; clear hg_; have Gb4 := Aside0.mk (by rw [hb4]; exact HB.out.size : W.heap.size ≤ b4); have Nb3_b4 := Aside0.mk (fun e => by have := blk_lt Kb3.out; omega : b3 ≠ b4); replace HB := Aside0.mk (below_step HB.out hb_); clear hb4; replace Kb3 := Aside0.mk ((hb_.block _ (blk_lt Kb3.out)).trans Kb3.out); replace HL := pw_cell_below hb_ HL; clear hb_; replace Kb4 := Aside0.mk Kb4)
    | fail)
  replace GR := Aside0.mk (GR.out.drew)
  have hbd := (Below.refl w2.heap.size w2).drew
  replace HB := Aside0.mk (below_step HB.out hbd); replace Kb3 := Aside0.mk ((hbd.block _ (blk_lt Kb3.out)).trans Kb3.out); replace Kb4 := Aside0.mk ((hbd.block _ (blk_lt Kb4.out)).trans Kb4.out); replace HL := pw_cell_below hbd HL; clear hbd
  refine start_ (n := 15) (S := fun w' => w'.cell? ⟨b3, 0, none⟩ = some (.int .i64 a.k) ∧ w'.cell? ⟨b3, 1, none⟩ = some (.int .i64 a.t) ∧ w'.cell? ⟨b3, 2, none⟩ = some (.int .i64 a.i) ∧ w'.cell? ⟨b4, 0, none⟩ = some (.int .i64 b.k) ∧ w'.cell? ⟨b4, 1, none⟩ = some (.int .i64 b.t) ∧ w'.cell? ⟨b4, 2, none⟩ = some (.int .i64 b.i) ∧ w'.cell? ⟨bl, 0, none⟩ = some (.map (some mb)) ∧ Aside0 (w'.ownsMap Tryz.prog 84 (plainElem Tryz.prog 2) mb nn D)) (ds := []) #[false, false, false, false, false, false, false, false, false, false, false, false, false, false, false] (by kernel_rfl) rfl rfl ⟨(blk_cell Kb3.out 0).trans rfl, (blk_cell Kb3.out 1).trans rfl, (blk_cell Kb3.out 2).trans rfl, (blk_cell Kb4.out 0).trans rfl, (blk_cell Kb4.out 1).trans rfl, (blk_cell Kb4.out 2).trans rfl, HL, ⟨HO.out.kept (grown_of_below HB.out none) (by simp)⟩⟩ ?_
  intro hHeld
  generalize hw_ : w2.drew = w3 at *
  clear hw_
  refine pure_ (i := 0) (N := some 6) (v := ?_) (a' := ?_) #[true, false, false, false, false, false, false, false, false, false, false, false, false, false, false] rfl rfl (by kernel_rfl) (fun _ _ _ h => h) (Or.inl ⟨by rfl, ?_⟩) ?_ ?_
  rotate_left
  · intro w'
    go_simp
    with_reducible rfl
  rotate_left
  · simp only [Act.put, List.setIfInBounds_toArray, List.set_cons_zero, List.set_cons_succ, i64_w, i32_w]
    rfl
  refine take_ (i := 1) (N := some 7) (v := ?_) (a' := ?_) #[true, true, false, false, false, false, false, false, false, false, false, false, false, false, false] rfl rfl (by kernel_rfl) (fun _ _ _ h => h) (Or.inl ⟨by rfl, ?_⟩) hHeld ?_ ?_
  rotate_left
  · rintro w' ⟨s0, s1, s2, s3, s4, s5, s6, s7⟩
    go_simp
    with_reducible rfl
  rotate_left
  · simp only [Act.put, List.setIfInBounds_toArray, List.set_cons_zero, List.set_cons_succ, i64_w, i32_w]
    rfl
  refine pure_ (i := 2) (N := some 8) (v := ?_) (a' := ?_) #[true, true, true, false, false, false, false, false, false, false, false, false, false, false, false] rfl rfl (by kernel_rfl) (fun _ _ _ h => h) (Or.inl ⟨by rfl, ?_⟩) ?_ ?_
  rotate_left
  · intro w'
    go_simp
    with_reducible rfl
  rotate_left
  · simp only [Act.put, List.setIfInBounds_toArray, List.set_cons_zero, List.set_cons_succ, i64_w, i32_w]
    rfl
  refine take_ (i := 3) (N := some 9) (v := ?_) (a' := ?_) #[true, true, true, true, false, false, false, false, false, false, false, false, false, false, false] rfl rfl (by kernel_rfl) (fun _ _ _ h => h) (Or.inl ⟨by rfl, ?_⟩) hHeld ?_ ?_
  rotate_left
  · rintro w' ⟨s0, s1, s2, s3, s4, s5, s6, s7⟩
    go_simp
    with_reducible rfl
  rotate_left
  · simp only [Act.put, List.setIfInBounds_toArray, List.set_cons_zero, List.set_cons_succ, i64_w, i32_w]
    rfl
  refine take_ (i := 5) (N := some 11) (v := ?_) (a' := ?_) #[true, true, true, true, false, true, false, false, false, false, false, false, false, false, false] rfl rfl (by kernel_rfl) (fun _ _ _ h => h) (Or.inl ⟨by rfl, ?_⟩) hHeld ?_ ?_
  rotate_left
  · rintro w' ⟨s0, s1, s2, s3, s4, s5, s6, s7⟩
    go_simp
    with_reducible rfl
  rotate_left
  · simp only [Act.put, List.setIfInBounds_toArray, List.set_cons_zero, List.set_cons_succ, i64_w, i32_w]
    rfl
  refine take_ (i := 6) (N := some 12) (v := ?_) (a' := ?_) #[true, true, true, true, false, true, true, false, false, false, false, false, false, false, false] rfl rfl (by kernel_rfl) (fun _ _ _ h => h) (Or.inl ⟨by rfl, ?_⟩) hHeld ?_ ?_
  rotate_left
  · rintro w' ⟨s0, s1, s2, s3, s4, s5, s6, s7⟩
    go_simp
    with_reducible rfl
  rotate_left
  · simp only [Act.put, List.setIfInBounds_toArray, List.set_cons_zero, List.set_cons_succ, i64_w, i32_w]
    rfl
  refine take_ (i := 7) (N := some 13) (v := ?_) (a' := ?_) #[true, true, true, true, false, true, true, true, false, false, false, false, false, false, false] rfl rfl (by kernel_rfl) (fun _ _ _ h => h) (Or.inl ⟨by rfl, ?_⟩) hHeld ?_ ?_
  rotate_left
  · rintro w' ⟨s0, s1, s2, s3, s4, s5, s6, s7⟩
    have hl := look_num s7.out a HA.out
    go_simp
    with_reducible rfl
  rotate_left
  · simp only [Act.put, List.setIfInBounds_toArray, List.set_cons_zero, List.set_cons_succ, i64_w, i32_w]
    rfl
  refine take_ (i := 8) (N := some 14) (v := ?_) (a' := ?_) #[true, true, true, true, false, true, true, true, true, false, false, false, false, false, false] rfl rfl (by kernel_rfl) (fun _ _ _ h => h) (Or.inl ⟨by rfl, ?_⟩) hHeld ?_ ?_
  rotate_left
  · rintro w' ⟨s0, s1, s2, s3, s4, s5, s6, s7⟩
    go_simp
    with_reducible rfl
  rotate_left
  · simp only [Act.put, List.setIfInBounds_toArray, List.set_cons_zero, List.set_cons_succ, i64_w, i32_w]
    rfl
  refine take_ (i := 9) (N := some 15) (v := ?_) (a' := ?_) #[true, true, true, true, false, true, true, true, true, true, false, false, false, false, false] rfl rfl (by kernel_rfl) (fun _ _ _ h => h) (Or.inl ⟨by rfl, ?_⟩) hHeld ?_ ?_
  rotate_left
  · rintro w' ⟨s0, s1, s2, s3, s4, s5, s6, s7⟩
    go_simp
    with_reducible rfl
  rotate_left
  · simp only [Act.put, List.setIfInBounds_toArray, List.set_cons_zero, List.set_cons_succ, i64_w, i32_w]
    rfl
  refine take_ (i := 10) (N := some 16) (v := ?_) (a' := ?_) #[true, true, true, true, false, true, true, true, true, true, true, false, false, false, false] rfl rfl (by kernel_rfl) (fun _ _ _ h => h) (Or.inl ⟨by rfl, ?_⟩) hHeld ?_ ?_
  rotate_left
  · rintro w' ⟨s0, s1, s2, s3, s4, s5, s6, s7⟩
    have hl := look_num s7.out b HBJ.out
    go_simp
    with_reducible rfl
  rotate_left
  · simp only [Act.put, List.setIfInBounds_toArray, List.set_cons_zero, List.set_cons_succ, i64_w, i32_w]
    rfl
  refine one_ (i := 4) (N := some 10) #[true, true, true, true, true, true, true, true, true, true, true, false, false, false, false] rfl rfl (by kernel_rfl) (by decide) (fun K hK => ?_)
  refine goes_ Tryz.func33 (by kernel_rfl) rfl #[.int .i64 a.k, .int .i64 b.k] (by rfl) rfl rfl (by go_simp) ?_
  refine (cmp_calls w3 a.k b.k).mono ?_
  rintro e w4 ⟨rfl, rfl⟩
  refine ⟨_, rfl, ?_⟩
  refine hK.out _ _ hHeld (fun hHeld => ?_)
  refine one_ (i := 11) (N := some 17) #[true, true, true, true, true, true, true, true, true, true, true, true, false, false, false] rfl rfl (by kernel_rfl) (by decide) (fun K hK => ?_)
  refine goes_ Tryz.func34 (by kernel_rfl) rfl #[.int .i64 (numD D a), .int .i64 (numD D b)] (by rfl) rfl rfl (by go_simp) ?_
  refine (cmp64_calls w4 (numD D a) (numD D b)).mono ?_
  rintro e w5 ⟨rfl, rfl⟩
  refine ⟨_, rfl, ?_⟩
  refine hK.out _ _ hHeld (fun hHeld => ?_)
  refine one_ (i := 12) (N := some 18) #[true, true, true, true, true, true, true, true, true, true, true, true, true, false, false] rfl rfl (by kernel_rfl) (by decide) (fun K hK => ?_)
  refine event_stepN (N := some 18) (v := .slice (some ⟨w5.heap.size, 0, none⟩) 2 2) (w1 := w5.alloc (.cells #[.int .i64 (cmpI a.k b.k), .int .i64 (cmpI (numD D a) (numD D b))] 3)) rfl (by rfl) (by go_simp) ?_
  have hal : Below w5.heap.size w5 (w5.alloc (.cells #[.int .i64 (cmpI a.k b.k), .int .i64 (cmpI (numD D a) (numD D b))] 3)) := below_alloc (Below.refl _ _) _
  have hbn := blk_new w5 (.cells #[.int .i64 (cmpI a.k b.k), .int .i64 (cmpI (numD D a) (numD D b))] 3)
  have G6 := Aside0.mk (GR.out.alloc (.cells #[.int .i64 (cmpI a.k b.k), .int .i64 (cmpI (numD D a) (numD D b))] 3))
  refine hK.out _ _ ?_ (fun hHeld => ?_)
  · obtain ⟨s0, s1, s2, s3, s4, s5, s6, s7⟩ := hHeld
    exact ⟨pw_cell_below hal s0, pw_cell_below hal s1, pw_cell_below hal s2, pw_cell_below hal s3, pw_cell_below hal s4, pw_cell_below hal s5, pw_cell_below hal s6, ⟨s7.out.kept (grown_of_below hal none) (by simp)⟩⟩
  simp only [Act.put, List.setIfInBounds_toArray, List.set_cons_zero, List.set_cons_succ]
  refine one_ (i := 13) (N := some 19) #[true, true, true, true, true, true, true, true, true, true, true, true, true, true, false] rfl rfl (by kernel_rfl) (by decide) (fun K hK => ?_)
  refine goes_ Tryz.func32 (by kernel_rfl) rfl #[.slice (some ⟨w5.heap.size, 0, none⟩) 2 2] (by rfl) rfl rfl (by go_simp) ?_
  refine (or_calls _ w5.heap.size (cmpI a.k b.k) (cmpI (numD D a) (numD D b)) ((blk_cell hbn 0).trans rfl) ((blk_cell hbn 1).trans rfl)).mono ?_
  rintro e w6 ⟨rfl, hw6⟩
  refine ⟨_, rfl, ?_⟩
  rw [hw6]
  refine hK.out _ _ hHeld (fun hHeld => ?_)
  refine pure_ (i := 14) (N := some 5) (v := ?_) (a' := ?_) #[true, true, true, true, true, true, true, true, true, true, true, true, true, true, true] rfl rfl (by kernel_rfl) (fun _ _ _ h => h) (Or.inl ⟨by rfl, ?_⟩) ?_ ?_
  rotate_left
  · intro w'
    go_simp
    with_reducible rfl
  rotate_left
  · simp only [Act.put, List.setIfInBounds_toArray, List.set_cons_zero, List.set_cons_succ, i64_w, i32_w]
    rfl
  refine done_ (by kernel_rfl) ?_
  clear hHeld hal hbn hw6
  generalize w5.alloc (.cells #[.int .i64 (cmpI a.k b.k), .int .i64 (cmpI (numD D a) (numD D b))] 3) = w7 at *
  go_wp2
  go_ret
  exact ⟨rfl, G6.out⟩
end Go.Proofs.YthhmfeiefbnhcaaGreat.Due
namespace Go.Proofs.YthhmfeiefbnhcaaGreat.Due
open Go.RowKit Go.Maps Go.Proofs.YthhmfeiefbnhcaaGreat.PDueParts Go.Proofs.YthhmfeiefbnhcaaGreatW.PrintWords Go.Proofs.YthhmfeiefbnhcaaGreatW.PrintLast
set_option linter.unusedVariables false
set_option linter.unusedSimpArgs false
attribute [local go_sem] Oper.semAt_some
def kJ : Kd Job := Kd.iso (Kd.pair (Kd.int .i64) (Kd.pair (Kd.int .i64) (Kd.int .i64))) (fun x : Job => (x.k, x.t, x.i))
theorem kJ_open {w : World} {x : Job} {cs : List Value} (h : kJ.K w x cs) : cs = [.int .i64 x.k, .int .i64 x.t, .int .i64 x.i] := by
  obtain ⟨_, _, rfl, rfl, ⟨_, _, rfl, rfl, rfl⟩⟩ := h
  exact rfl
theorem kJ_openM {w : World} {base : Nat} {ok : Nat → Prop} {x : Job} {cs : List Value} (h : kJ.M w base ok x cs) : cs = [.int .i64 x.k, .int .i64 x.t, .int .i64 x.i] := by
  obtain ⟨_, _, rfl, rfl, ⟨_, _, rfl, rfl, rfl⟩⟩ := h
  exact rfl
theorem kJ_mk (w : World) (x : Job) : kJ.K w x [.int .i64 x.k, .int .i64 x.t, .int .i64 x.i] := ⟨[.int .i64 x.k], [.int .i64 x.t, .int .i64 x.i], rfl, rfl, ⟨[.int .i64 x.t], [.int .i64 x.i], rfl, rfl, rfl⟩⟩
theorem kJ_mkM (w : World) (base : Nat) (ok : Nat → Prop) (x : Job) : kJ.M w base ok x [.int .i64 x.k, .int .i64 x.t, .int .i64 x.i] := ⟨[.int .i64 x.k], [.int .i64 x.t, .int .i64 x.i], rfl, rfl, ⟨[.int .i64 x.t], [.int .i64 x.i], rfl, rfl, rfl⟩⟩
def zJ : Job := ⟨0, 0, 0⟩
def kA : Kd Job := Kd.iso (Kd.pair (Kd.int .i64) (Kd.pair (Kd.int .i64) (Kd.pair (Kd.int .i64) (Kd.pair (Kd.int .i64) (Kd.int .i64))))) (fun x : Job => (x.k, x.t, x.i, 0, 0))
theorem kA_open {w : World} {x : Job} {cs : List Value} (h : kA.K w x cs) : cs = [.int .i64 x.k, .int .i64 x.t, .int .i64 x.i, .int .i64 0, .int .i64 0] := by
  obtain ⟨_, _, rfl, rfl, ⟨_, _, rfl, rfl, ⟨_, _, rfl, rfl, ⟨_, _, rfl, rfl, rfl⟩⟩⟩⟩ := h
  exact rfl
theorem kA_mkM (w : World) (base : Nat) (ok : Nat → Prop) (x : Job) : kA.M w base ok x [.int .i64 x.k, .int .i64 x.t, .int .i64 x.i, .int .i64 0, .int .i64 0] :=
  ⟨[.int .i64 x.k], [.int .i64 x.t, .int .i64 x.i, .int .i64 0, .int .i64 0], rfl, rfl, ⟨[.int .i64 x.t], [.int .i64 x.i, .int .i64 0, .int .i64 0], rfl, rfl, ⟨[.int .i64 x.i], [.int .i64 0, .int .i64 0], rfl, rfl, ⟨[.int .i64 0], [.int .i64 0], rfl, rfl, rfl⟩⟩⟩⟩
theorem at_A {w : World} {A : Option Addr} {n : Nat} {xs : List Job} (h : Kd.C kA w A n xs) (i : Nat) (h1 : i < xs.length) : ∃ ad, A = some ad ∧ w.cell? (ad.add (i * 5)) = some (.int .i64 (xs[i]).k) ∧ w.cell? ⟨(ad.add (i * 5)).block, (ad.add (i * 5)).off + 1, none⟩ = some (.int .i64 (xs[i]).t) ∧ w.cell? ⟨(ad.add (i * 5)).block, (ad.add (i * 5)).off + 2, none⟩ = some (.int .i64 (xs[i]).i) ∧ w.cell? ⟨(ad.add (i * 5)).block, (ad.add (i * 5)).off + 3, none⟩ = some (.int .i64 0) ∧ w.cell? ⟨(ad.add (i * 5)).block, (ad.add (i * 5)).off + 4, none⟩ = some (.int .i64 0) := by
  obtain ⟨ad, c, e, _, hK, hc0⟩ := Kd.C_get h zJ (i : Nat) (by omega) (by have := h.1; omega)
  have hx : xs.getD ((i : Int)).toNat zJ = xs[i] := by rw [Int.toNat_natCast, List.getD_eq_getElem?_getD, List.getElem?_eq_getElem h1]; rfl
  rw [hx] at hK
  have hc : ∀ j u, c[j]? = some u → w.cell? (ad.add (i * 5 + j)) = some u := hc0
  obtain rfl := kA_open hK
  exact ⟨ad, e, hc 0 _ rfl, by rw [← add_field _ _ 1 (by omega)]; exact hc 1 _ rfl, by rw [← add_field _ _ 2 (by omega)]; exact hc 2 _ rfl, by rw [← add_field _ _ 3 (by omega)]; exact hc 3 _ rfl, by rw [← add_field _ _ 4 (by omega)]; exact hc 4 _ rfl⟩
theorem at_J {w : World} {A : Option Addr} {n : Nat} {xs : List Job} (h : Kd.C kJ w A n xs) (i : Nat) (h1 : i < xs.length) : ∃ ad, A = some ad ∧ w.cell? (ad.add (i * 3)) = some (.int .i64 (xs[i]).k) ∧ w.cell? ⟨(ad.add (i * 3)).block, (ad.add (i * 3)).off + 1, none⟩ = some (.int .i64 (xs[i]).t) ∧ w.cell? ⟨(ad.add (i * 3)).block, (ad.add (i * 3)).off + 2, none⟩ = some (.int .i64 (xs[i]).i) := by
  obtain ⟨ad, c, e, _, hK, hc0⟩ := Kd.C_get h zJ (i : Nat) (by omega) (by have := h.1; omega)
  have hx : xs.getD ((i : Int)).toNat zJ = xs[i] := by rw [Int.toNat_natCast, List.getD_eq_getElem?_getD, List.getElem?_eq_getElem h1]; rfl
  rw [hx] at hK
  have hc : ∀ j u, c[j]? = some u → w.cell? (ad.add (i * 3 + j)) = some u := hc0
  obtain rfl := kJ_open hK
  exact ⟨ad, e, hc 0 _ rfl, by rw [← add_field _ _ 1 (by omega)]; exact hc 1 _ rfl, by rw [← add_field _ _ 2 (by omega)]; exact hc 2 _ rfl⟩
theorem size84 : (Tryz.prog.info? 84).map (·.size) = some 3 := by kernel_rfl
theorem size79 : (Tryz.prog.info? 79).map (·.size) = some 1 := by kernel_rfl
theorem info84 : (Tryz.prog.info? 84).map (fun i => (i.zero, i.size, i.bytes)) = some (some (.agg #[(.int .i64 0), (.int .i64 0), (.int .i64 0)]), 3, 24) := by kernel_rfl
theorem info40 : (Tryz.prog.info? 40).map (fun i => (i.zero, i.size, i.bytes)) = some (some (.agg #[(.int .i64 0), (.int .i64 0), (.int .i64 0), (.int .i64 0), (.int .i64 0)]), 5, 40) := by kernel_rfl
def CollJ (D : DataW Unit) (left : Lit → Bool) (ss : List Job) : Prop := ss.Nodup ∧ ∀ j : Job, j ∈ ss ↔ (j.wf ∧ Maps.has D j.lit = true ∧ left j.lit = false)
theorem CollJ.start (D : DataW Unit) : CollJ D (Maps.has D) [] := ⟨List.nodup_nil, fun j => by cases Maps.has D j.lit <;> simp⟩
theorem CollJ.step {D : DataW Unit} {left : Lit → Bool} {ss : List Job} (h : CollJ D left ss) {x : Job} (hx : x.wf) {y : DataW Unit} (hlk : left x.lit = true) (hat : ∀ zd, D.atKey x.lit zd = y) : CollJ D (fun z => left z && !z.sameKey x.lit) (ss ++ [x]) := by
  have hhas : Maps.has D x.lit = true := Maps.has_true_of_atKey hat
  have hnew : x ∉ ss := fun hm => by have := ((h.2 x).1 hm).2.2; rw [hlk] at this; cases this
  refine ⟨List.nodup_append.2 ⟨h.1, by simp, fun a ha b hb => by simp at hb; subst hb; exact fun e => hnew (e ▸ ha)⟩, fun j => ?_⟩
  by_cases hj : j = x
  · subst hj
    simp [hhas, hx, Job.same hx hx]
  · by_cases hw : j.wf
    · simp [h.2 j, hj, hw, Job.same hw hx]
    · simp [h.2 j, hj, hw]
def AllJ (D : DataW Unit) (xs : List Job) : Prop := xs.Nodup ∧ xs.length ≤ Maps.size D ∧ ∀ j : Job, j ∈ xs ↔ (j.wf ∧ Maps.has D j.lit = true)
theorem ranges_kept {w w' : World} {b r n : Nat} {D : DataW Unit} {left : Lit → Bool} {cnt : Nat} (h : w.ranges Tryz.prog 84 (plainElem Tryz.prog 2) b r n D left cnt) (h1 : ∀ o, w.heap[b]? = some o → w'.heap[b]? = some o) (h2 : ∀ o : Obj, w.heap[r]? = some o → o.isCells = false → w'.heap[r]? = some o) : w'.ranges Tryz.prog 84 (plainElem Tryz.prog 2) b r n D left cnt := by
  obtain ⟨es, clock, since, seen, c0, hb, hf, hn, hD, hr, h3⟩ := h
  exact ⟨es, clock, since, seen, c0, h1 _ hb, hf, hn, hD, h2 _ hr rfl, h3⟩
theorem ranges_obj {w : World} {b r n : Nat} {D : DataW Unit} {left : Lit → Bool} {cnt : Nat} (h : w.ranges Tryz.prog 84 (plainElem Tryz.prog 2) b r n D left cnt) : ∃ o : Obj, w.heap[r]? = some o ∧ o.isCells = false := by
  obtain ⟨es, clock, since, seen, c0, hb, hf, hn, hD, hr, h3⟩ := h
  exact ⟨_, hr, rfl⟩
set_option maxRecDepth 100000 in
set_option maxHeartbeats 2000000 in
theorem keys1_in (l : Nat) (bx mb nn n₀ : Nat) (D : DataW Unit) (J Jx : List Job → World → Prop) (W : World) (hmb : mb < n₀) (hn₀ : n₀ ≤ W.heap.size) (hJ : OwnFrom W.heap.size J)
    (hY : ∀ pre x W1, J pre W1 → pre.length < Maps.size D → YieldAt Fence.wide 1 Tryz.prog l #[x.val] W1 fun e W' =>
      (e = .returned (.bool true) ∧ J (pre ++ [x]) W' ∧ Below n₀ W1 W' ∧ KeepsFrom W.heap.size W1 W') ∨ (e = .returned (.bool false) ∧ Jx (pre ++ [x]) W' ∧ KeepsFrom W.heap.size W1 W'))
    (hbx : W.cell? ⟨bx, 0, none⟩ = some (.map (some mb))) (hown : W.ownsMap Tryz.prog 84 (plainElem Tryz.prog 2) mb nn D) (h0 : J [] W) :
    Calls Tryz.prog 76 #[.func (.yield l) #[] #[], .pointer (some ⟨bx, 0, none⟩)] W fun e W' => (∃ v, e = .returned v) ∧
      ((∃ xs, AllJ D xs ∧ J xs W') ∨ (∃ pre, Jx pre W')) := by
  have HJ := Aside0.mk hJ
  have HY := Aside0.mk hY
  have H0 := Aside0.mk h0
  have HO := Aside0.mk hown
  have HN := Aside0.mk hn₀
  have HM := Aside0.mk hmb
  clear hJ hY h0 hown hn₀ hmb
  refine (callsIn_wide (n := 2)).1 (callsIn_of_wp Tryz.func76 rfl trivial ?_ rfl)
  simp only [Tryz.ntmps76, List.size_toArray, List.length_cons, List.length_nil, Nat.reduceAdd, Nat.reduceSub, Array.replicate_succ, Array.replicate_zero, List.push_toArray, List.append_toArray, List.nil_append, List.cons_append]
  gi_wp2_with (first
    | (gi_at_range; refine wpListIn_range_own _ rfl _ 79 rfl 84 2 law84 Tryz.underlying79 _ mb nn _ rfl HO.out ?_; intro w0 hrg0 hg0 hs0; have R0 := Aside0.mk hrg0; have G0 := Aside0.mk hg0; have S0 := Aside0.mk hs0; clear hrg0 hg0 hs0)
    | gi_in)
  go_frame
  gi_loopw [3] (fun _ wr => ∃ (left : Lit → Bool) (cnt : Nat) (ss : List Job), Aside0 (wr.ranges Tryz.prog 84 (plainElem Tryz.prog 2) mb W.heap.size nn D left cnt) ∧ Aside0 (ss.length + cnt ≤ Maps.size D) ∧ Aside0 (CollJ D left ss) ∧ Aside0 (J ss wr) ∧ Aside0 (W.heap.size ≤ wr.heap.size))
    (fun _ wr => wr.rangeLeft mb W.heap.size)
  case atStart =>
    exact ⟨_, _, [], R0, ⟨by simp⟩, ⟨CollJ.start D⟩, ⟨HJ.out [] W w0 none H0.out G0.out (fun r e => by cases e)⟩, ⟨G0.out.size⟩⟩
  case round =>
    obtain ⟨left, cnt, ss, hrg, hcn, hC, hJs, hsz⟩ := hrel
    gi_wp2_with (first
      | (gi_at_next; refine wpListIn_next_ranges _ rfl _ rfl 84 law84 (plainElem Tryz.prog 2) (fun j : Job => Value.agg #[.int .i64 j.k, .int .i64 j.t, .int .i64 j.i]) (Value.int .i64) (fun key kl hk => by obtain ⟨x, _, hx, _⟩ := keyOf_inv hk; exact ⟨x, hx⟩) (fun v y hv => by obtain ⟨c, rfl, _⟩ := plainElem_int_inv Tryz.underlying2 hv; exact ⟨c, rfl⟩) mb W.heap.size nn _ _ _ rfl hrg.out ?_ ?_)
      | gi_in)
    · intro hc0 hl0
      have HL0 := Aside0.mk hl0
      clear hl0 hc0
      gi_wp2
      go_end0
      exact ⟨⟨_, rfl⟩, .inl ⟨ss, ⟨hC.out.1, by have := hcn.out; omega, fun j => (hC.out.2 j).trans ⟨fun h => ⟨h.1, h.2.1⟩, fun h => ⟨h.1, h.2, HL0.out _⟩⟩⟩, hJs.out⟩⟩
    · intro x c kl yd yp w2 cnt2 hkey hlk hv hat hrg2 hlt hg2 hs2 hen
      obtain ⟨x', hxw, ex, rfl⟩ := keyOf_inv hkey
      obtain rfl : x = x' := by
        obtain ⟨a1, a2, a3⟩ := x
        obtain ⟨b1, b2, b3⟩ := x'
        simp only [Job.val, Value.agg.injEq] at ex
        simpa using ex
      have HAT := Aside0.mk hat
      have HLK := Aside0.mk hlk
      have HXW := Aside0.mk hxw
      have HR2 := Aside0.mk hrg2
      have HLT := Aside0.mk hlt
      have HJ2 := Aside0.mk (HJ.out ss wr w2 (some W.heap.size) hJs.out hg2 (fun r e => by cases e; exact ⟨Nat.le_refl _, ranges_obj hrg.out⟩))
      have hb1 : Below w2.heap.size w2 (w2.alloc (.cells #[.int .i64 x.k, .int .i64 x.t, .int .i64 x.i] 84)) := below_alloc (Below.refl _ _) _
      obtain ⟨fn, tmps, assign, body, hy, hR⟩ := yieldAny 1 (HY.out ss x (w2.alloc (.cells #[.int .i64 x.k, .int .i64 x.t, .int .i64 x.i] 84)) (HJ.out.alloc _ HJ2.out) (by have := hcn.out; have := HLT.out; omega))
      simp only [Job.val] at hy
      have HR := Aside0.mk hR
      have Hb1 := Aside0.mk hb1
      have HS2 := Aside0.mk (Nat.le_trans hsz.out hg2.size)
      clear hR hb1 hs2 hg2 hrg2 hat hlk hxw hkey hv ex hlt
      gi_wp2
      refine HR.out.mono ?_
      rintro e W3 (⟨rfl, hJ3, hk3, hf3⟩ | ⟨rfl, hJx3, _⟩)
      · have HJ3 := Aside0.mk hJ3
        have R3 := Aside0.mk (ranges_kept HR2.out (w' := W3) (fun o ho => (hk3.block mb HM.out).trans ((Hb1.out.block mb (Array.getElem?_eq_some_iff.1 ho).1).trans ho)) (fun o ho hc => hf3.same _ _ (Nat.le_refl _) ((Hb1.out.block _ (Array.getElem?_eq_some_iff.1 ho).1).trans ho) hc))
        have S3 := Aside0.mk (Nat.le_trans HS2.out (Nat.le_trans Hb1.out.size hk3.size))
        clear hJ3 hk3 hf3
        gi_wp2
        go_roundw
        case rel => exact ⟨_, cnt2, ss ++ [x], R3, ⟨by have := hcn.out; have := HLT.out; simp; omega⟩, ⟨hC.out.step HXW.out HLK.out HAT.out⟩, HJ3, S3⟩
        case measure => rw [R3.out.left_eq, hrg.out.left_eq]; exact HLT.out
      · have HJ3 := Aside0.mk hJx3
        clear hJx3
        gi_wp2
        refine bodyPost_ret (results_none rfl _ _ _) rfl ?_
        exact ⟨⟨_, rfl⟩, .inr ⟨_, HJ3.out⟩⟩
theorem keys1_seq (bx mb nn n₀ : Nat) (D : DataW Unit) (w : World) (hmb : mb < n₀) (hn₀ : n₀ ≤ w.heap.size) (hbx : w.cell? ⟨bx, 0, none⟩ = some (.map (some mb))) (hown : w.ownsMap Tryz.prog 84 (plainElem Tryz.prog 2) mb nn D) :
    SeqJ Tryz.prog 76 #[.pointer (some ⟨bx, 0, none⟩)] (fun j : Job => #[j.val]) n₀ (AllJ D) (fun _ => True) (Maps.size D) w := fun l J Jx W hW hJ hJx hY h0 =>
  (keys1_in l bx mb nn n₀ D J Jx W hmb (Nat.le_trans hn₀ hW.size) hJ (fun pre x W1 h1 h2 => hY pre x W1 h1 h2 trivial) (pw_cell_below hW hbx) (hown.kept (grown_of_below hW none) (by simp)) h0).mono fun e W' ⟨he, h⟩ => ⟨he, h.elim .inl (fun ⟨pre, h⟩ => .inr ⟨pre, trivial, h⟩)⟩
theorem keys_calls (W : World) (mb : Nat) :
    Calls Tryz.prog 30 #[.map (some mb)] W fun e w' => ∃ b, e = .returned (.func (.func 76) #[] #[.pointer (some ⟨b, 0, none⟩)]) ∧ w'.cell? ⟨b, 0, none⟩ = some (.map (some mb)) ∧ Below W.heap.size W w' := by
  go_enter Tryz.func30, Tryz.ntmps30
  go_wp2
  go_ret
  exact ⟨W.heap.size, rfl, (blk_cell (blk_new W _) 0).trans rfl, below_alloc (Below.refl _ _) _⟩
end Go.Proofs.YthhmfeiefbnhcaaGreat.Due
namespace Go.Proofs.YthhmfeiefbnhcaaGreat.Due
open Go.RowKit Go.Maps Go.Proofs.YthhmfeiefbnhcaaGreat.PDueParts Go.Proofs.YthhmfeiefbnhcaaGreatW.PrintWords Go.Proofs.YthhmfeiefbnhcaaGreatW.PrintLast
set_option linter.unusedVariables false
set_option linter.unusedSimpArgs false
attribute [local go_sem] Oper.semAt_some
theorem size81 : (Tryz.prog.info? 81).map (·.size) = some 1 := by kernel_rfl
set_option maxRecDepth 100000 in
set_option maxHeartbeats 4000000 in
theorem append_calls (W : World) (bx mb nn : Nat) (D : DataW Unit) (hbx : W.cell? ⟨bx, 0, none⟩ = some (.map (some mb))) (hown : W.ownsMap Tryz.prog 84 (plainElem Tryz.prog 2) mb nn D) (hsz : nn ≤ 2000000) :
    Calls Tryz.prog 116 #[.slice none 0 0, .func (.func 76) #[] #[.pointer (some ⟨bx, 0, none⟩)]] W fun e w' => ∃ v xs, e = .returned v ∧ AllJ D xs ∧ Kd.R kJ 84 w' W.heap.size (fun _ => True) v xs ∧ Below W.heap.size W w' := by
  have HX := Aside0.mk hbx
  have HO := Aside0.mk hown
  have HSZ := Aside0.mk hsz
  have HB := Aside0.mk (Below.refl W.heap.size W)
  clear hbx hown hsz
  refine (callsIn_wide (n := 3)).1 (callsIn_of_wp_marks Tryz.func116 rfl trivial ?_ rfl)
  simp only [Tryz.ntmps116, List.size_toArray, List.length_cons, List.length_nil, Nat.reduceAdd, Nat.reduceSub, Array.replicate_succ, Array.replicate_zero, List.push_toArray, List.append_toArray, List.nil_append, List.cons_append]
  refine wpIn_wide.2 ?_
  go_wp2_with (first
    | ((with_reducible refine gate_dst (N := 2) rfl ?_); refine box_event ?hg (N := 2) ?hd (cs := #[.slice none 0 0]) (t := 81) ?hr ?_; (case hd => rfl); (case hg => rfl); (case hr => first | (go_simp; done) | (go_simp; rfl)); intro b2 hb2 w1 Kb2 hb_; have Gb2 := Aside0.mk (by rw [hb2]; exact HB.out.size : W.heap.size ≤ b2); replace HB := Aside0.mk (below_step HB.out hb_); clear hb2; clear hb_; have cb2_0 := blk_cell Kb2 0; simp only [List.getElem?_toArray, List.getElem?_cons_zero, List.getElem?_cons_succ] at cb2_0; replace Kb2 := Aside0.mk Kb2)
    | fail)
  refine (wpIn_wide (n := 3)).1 ?_
  refine rangeJ (gf := 76) (lb := #[.pointer (some ⟨bx, 0, none⟩)]) rfl (enters_of Tryz.func76 (by kernel_rfl) rfl) (keys1_seq bx mb nn W.heap.size D w1 HO.out.lt HB.out.size (pw_cell_below HB.out HX.out) (HO.out.kept (grown_of_below HB.out none) (by simp))) HB.out.size (Below.refl _ _) (fun _ => rfl)
    (fun pre W' => (∃ v, W'.heap[b2]? = some (.cells #[v] 81 (0, 0)) ∧ Kd.R kJ 84 W' W.heap.size (fun _ => True) v pre) ∧ Below W.heap.size W W') (fun _ _ _ => False) ?hI (fun _ _ _ _ _ hs _ _ => hs) ?h0
    (fun x a' W' => ∃ b5, W'.heap[b5]? = some (.cells #[.int .i64 x.k, .int .i64 x.t, .int .i64 x.i] 84 (0, 0)) ∧ a' = { tmps := #[.slice none 0 0, .func (.func 76) #[] #[.pointer (some ⟨bx, 0, none⟩)], .pointer (some ⟨b2, 0, none⟩), undef, .slice none 0 0, .pointer (some ⟨b5, 0, none⟩), .func (.func 76) #[] #[.pointer (some ⟨bx, 0, none⟩)], .agg #[.int .i64 x.k, .int .i64 x.t, .int .i64 x.i], undef, undef, undef, undef, undef], defers := [] }) ?hAx ?assign ?body ?done ?stop
  case hI =>
    rintro pre X Y row ⟨⟨v, h1, h2⟩, h4⟩ hg hr
    exact ⟨⟨v, blk_turn h1 hg (fun r e => (hr r e).2), R_turn h2 hg (fun r e => (hr r e).2)⟩, h4.grown hg h4.size (fun k e => by have := (hr k e).1; have := HB.out.size; omega)⟩
  case h0 => exact ⟨⟨_, Kb2.out, Kd.R_nil _ _ _ _ _⟩, HB.out⟩
  case hAx =>
    rintro x a' _ X Y row ⟨b5, h5, rfl⟩ hg hr
    exact ⟨b5, blk_turn h5 hg (fun r e => (hr r e).2), rfl⟩
  case assign =>
    rintro q pre x W5 K hsz ⟨⟨v, hb2, hR⟩, hB⟩ hK
    have HK := Aside0.mk hK
    have H1 := Aside0.mk hb2
    have H2 := Aside0.mk hR
    have H3 := Aside0.mk hB
    clear hK hb2 hR hB
    simp only [Job.val]
    gi_wp2
    have hal : Below W5.heap.size W5 (W5.alloc (.cells #[.int .i64 x.k, .int .i64 x.t, .int .i64 x.i] 84)) := below_alloc (Below.refl _ _) _
    exact HK.out _ _ ((KeepsOthers.alloc _ _).from _) (hal.mono H3.out.size) ⟨⟨v, (hal.block _ (blk_lt H1.out)).trans H1.out, Kd.R_below H2.out hal⟩, below_step H3.out hal⟩ ⟨W5.heap.size, blk_new W5 _, rfl⟩
  case body =>
    rintro q pre x a' W5 hl hlt ⟨⟨v, hb2, hR⟩, hB⟩ ⟨b5, h5, rfl⟩ hN
    have Kb2n := Aside0.mk hb2
    have Kb5n := Aside0.mk h5
    have HRn := Aside0.mk hR
    have HBn := Aside0.mk hB
    have HLB := Aside0.mk (show (pre.length + 1) * 24 ≤ 140737488355328 by have := HO.out.size_le; have := HSZ.out; omega)
    clear HB hb2 h5 hR hB hN hl hlt Kb2
    have HB := HBn
    have Kb2 := Kb2n
    have Kb5 := Kb5n
    have HR := HRn
    have KO := Aside0.mk (KeepsOthers.refl W5)
    have G2 := Aside0.mk Gb2.out
    have H5 := Aside0.mk HBn.out
    clear HBn Kb2n Kb5n HRn
    obtain ⟨A0, n0, c0, hv0⟩ := R_slice' HR.out
    subst hv0
    have cb2_0 : W5.cell? ⟨b2, 0, none⟩ = some (.slice A0 n0 c0) := (blk_cell Kb2.out 0).trans rfl
    have cb5_0 := blk_cell Kb5.out 0; have cb5_1 := blk_cell Kb5.out 1; have cb5_2 := blk_cell Kb5.out 2; simp only [List.getElem?_toArray, List.getElem?_cons_zero, List.getElem?_cons_succ] at cb5_0 cb5_1 cb5_2
    gi_upto_region 3 with fail
    refine regionIn_lit (by kernel_rfl) (fun ⟨_, _, h⟩ => h) ?_
    go_wp2_with (first
      | ((with_reducible refine gate_dst (N := 10) rfl ?_); refine brow_event ?hg (N := 10) ?hd (cs := #[.int .i64 x.k, .int .i64 x.t, .int .i64 x.i]) (t := 84) (n := 1) ?hr ?_; (case hd => rfl); (case hg => rfl); (case hr => first | (go_simp; done) | (go_simp; rfl)); intro b10 hb10 w6 Kb10 hb_; have Gb10 := Aside0.mk (by rw [hb10]; exact HB.out.size : W.heap.size ≤ b10); have Nb2_b10 := Aside0.mk (fun e => by have := blk_lt Kb2.out; omega : b2 ≠ b10); have Nb5_b10 := Aside0.mk (fun e => by have := blk_lt Kb5.out; omega : b5 ≠ b10); replace KO := Aside0.mk (KO.out.trans (keeps_below hb_)); replace HB := Aside0.mk (below_step HB.out hb_); clear hb10; replace Kb2 := Aside0.mk ((hb_.block _ (blk_lt Kb2.out)).trans Kb2.out); replace Kb5 := Aside0.mk ((hb_.block _ (blk_lt Kb5.out)).trans Kb5.out); replace HR := Aside0.mk (Kd.R_below HR.out hb_); clear hb_; replace Kb10 := Aside0.mk Kb10)
      | ((with_reducible refine gate_dst (N := 11) rfl ?_); refine Kd.R_append_rows kJ (w0 := W) W.heap.size rfl (.tmp 8) (.tmp 10) 81 84 ((.agg #[(.int .i64 0), (.int .i64 0), (.int .i64 0)])) 24 rfl Tryz.underlying81 info84 rfl (by decide) (by omega) (.slice A0 n0 c0) pre [x] (some ⟨b10, 0, none⟩) 1 1 (fun _ => True) (fun _ => False) rfl rfl HR.out ((fun h => reads_row (d := kJ) (p := x) (cs := [.int .i64 x.k, .int .i64 x.t, .int .i64 x.i]) h rfl) Kb10.out) (fun _ _ h => by obtain ⟨rfl, rfl⟩ := h; exact kJ_mkM _ _ _ _) (fun _ h => h.elim) (fun _ _ => trivial) HB.out HB.out.size HLB.out ?_; intro v1 w7 hR1 hb1 hg1 _; replace Kb2 := Aside0.mk (blk_grown Kb2.out hg1 (Kd.R_ne HR.out Kb2.out (by decide))); replace KO := Aside0.mk (KO.out.trans (keeps_grown hg1 (fun k hk => by obtain ⟨_, ho⟩ := Kd.R_own HR.out; obtain ⟨cells, hc⟩ := own_typed ho k hk; exact ⟨_, _, _, hc⟩))); clear HR HB Kb10; have HR := Aside0.mk hR1; have HB := Aside0.mk hb1; clear hR1 hb1 hg1; clear cb2_0; obtain ⟨A1, n1, c1, hv1⟩ := R_slice' HR.out; subst hv1; have cb2_0 := blk_cell Kb2.out 0; simp only [List.getElem?_toArray, List.getElem?_cons_zero, List.getElem?_cons_succ] at cb2_0)
      | (refine store_one rfl 81 (.tmp 2) (.tmp 11) rfl rfl b2 (.slice A1 n1 c1) 81 _ rfl rfl Kb2.out size81 (by simp [Value.oneCell']) ?_; intro w8 k_ g_; have B8 := Aside0.mk (HB.out.grown g_ HB.out.size (fun r e => by cases e; exact G2.out)); have KO8 := Aside0.mk (KO.out.trans (keeps_grown g_ (fun k e => by cases e; exact ⟨_, _, _, Kb2.out⟩))); have R8 := Aside0.mk (R_other HR.out Kb2.out (by decide) g_); have K8 := Aside0.mk k_; clear k_ g_ Kb2 HB KO HR cb2_0)
      | fail)
    exact ⟨KO8.out.from _, below_back H5.out B8.out (by have := KO8.out.size; omega), ⟨⟨_, K8.out, R8.out⟩, B8.out⟩⟩
  case done =>
    rintro D' xs W5 hD hS ⟨⟨v, hb2, hR⟩, hB⟩ hdef
    have HD := Aside0.mk hdef
    have HDW := Aside0.mk (Nat.le_trans HB.out.size hD)
    have H1 := Aside0.mk hb2
    have H2 := Aside0.mk hR
    have H3 := Aside0.mk hB
    have HS := Aside0.mk hS
    clear hdef hD hb2 hR hB hS Kb2 cb2_0
    obtain ⟨A0, n0, c0, hv0⟩ := R_slice' H2.out
    subst hv0
    have cb2_0 : W5.cell? ⟨b2, 0, none⟩ = some (.slice A0 n0 c0) := (blk_cell H1.out 0).trans rfl
    go_wp2
    refine ⟨by simp, .inl ⟨_, _, rfl, run_takeDeferred HD.out, ?_⟩⟩
    exact ⟨_, results_tmp rfl _ _ _, _, xs, rfl, HS.out, R_turn H2.out (grownBy_putObj' _ D' _) (fun r e => by cases e; exact ⟨_, HD.out, rfl⟩), H3.out.grown (grownBy_putObj' _ D' _) H3.out.size (fun k e => by cases e; exact HDW.out)⟩
  case stop =>
    rintro D' c' pre W9 _ _ h _
    exact h.elim
theorem collect_calls (W : World) (bx mb nn : Nat) (D : DataW Unit) (hbx : W.cell? ⟨bx, 0, none⟩ = some (.map (some mb))) (hown : W.ownsMap Tryz.prog 84 (plainElem Tryz.prog 2) mb nn D) (hsz : nn ≤ 2000000) :
    Calls Tryz.prog 74 #[.func (.func 76) #[] #[.pointer (some ⟨bx, 0, none⟩)]] W fun e w' => ∃ v xs, e = .returned v ∧ AllJ D xs ∧ Kd.R kJ 84 w' W.heap.size (fun _ => True) v xs ∧ Below W.heap.size W w' := by
  have HX := Aside0.mk hbx
  have HO := Aside0.mk hown
  have HSZ := Aside0.mk hsz
  clear hbx hown hsz
  go_enter Tryz.func74, Tryz.ntmps74
  go_wp2_with (go_at_call 116; refine (append_calls _ bx mb nn D HX.out HO.out HSZ.out).mono ?_; rintro e w1 ⟨v, xs, rfl, hA, hR, hB⟩; have H1 := Aside0.mk hA; have H2 := Aside0.mk hR; have H3 := Aside0.mk hB; clear hA hR hB; obtain ⟨A0, n0, c0, hv0⟩ := R_slice' H2.out; subst hv0)
  go_ret
  exact ⟨_, xs, rfl, H1.out, H2.out, H3.out⟩
end Go.Proofs.YthhmfeiefbnhcaaGreat.Due
namespace Go.Proofs.YthhmfeiefbnhcaaGreat.Due
open Go.RowKit Go.Maps Go.Sort Go.Shelf Go.Proofs.YthhmfeiefbnhcaaGreat.PDueParts Go.Proofs.YthhmfeiefbnhcaaGreatW.PrintWords Go.Proofs.YthhmfeiefbnhcaaGreatW.PrintLast
set_option linter.unusedVariables false
set_option linter.unusedSimpArgs false
abbrev JW := {j : Job // j.wf}
instance instJW : Inhabited JW := ⟨⟨⟨0, 0, 0⟩, ⟨by show in64 0; unfold in64; omega, by show in64 0; unfold in64; omega, by show in64 0; unfold in64; omega⟩⟩⟩
def encJ (x : JW) : List Value := [.int .i64 x.1.k, .int .i64 x.1.t, .int .i64 x.1.i]
theorem encJ_len (x : JW) : (encJ x).length = 3 := rfl
theorem encJ_one (x : JW) : ∀ v ∈ encJ x, v.oneCell' = true := by
  intro v hv
  simp only [encJ, List.mem_cons, List.not_mem_nil, or_false] at hv
  rcases hv with rfl | rfl | rfl <;> rfl
theorem lift_wf : ∀ l : List Job, (∀ j ∈ l, j.wf) → ∃ xs : List JW, xs.map (·.1) = l
  | [], _ => ⟨[], rfl⟩
  | j :: l, h => by
    obtain ⟨xs, hx⟩ := lift_wf l (fun a ha => h a (by simp [ha]))
    exact ⟨⟨j, h j (by simp)⟩ :: xs, by simp [hx]⟩
theorem cmpI_neg {x y : Int} : cmpI x y < 0 ↔ x < y := by
  unfold cmpI
  split
  · omega
  · split <;> omega
theorem cmpI_zero {x y : Int} : cmpI x y = 0 ↔ x = y := by
  unfold cmpI
  split
  · omega
  · split <;> omega
theorem cf_neg (D : DataW Unit) (a b : Job) : cfJ D a b < 0 ↔ a.k < b.k ∨ (a.k = b.k ∧ numD D a < numD D b) := by
  unfold cfJ orI
  by_cases h : cmpI a.k b.k = 0
  · rw [if_pos h, cmpI_neg]
    have := cmpI_zero.1 h
    omega
  · rw [if_neg h, cmpI_neg]
    have h2 : a.k ≠ b.k := fun e => h (cmpI_zero.2 e)
    omega
theorem cf_swo (D : DataW Unit) : SWO (ltOf (fun x y : JW => cfJ D x.1 y.1)) := by
  refine ⟨fun x => ?_, fun x y z h1 h2 => ?_, fun x y z h1 h2 => ?_⟩
  · simp only [ltOf, decide_eq_false_iff_not, cf_neg]; omega
  · simp only [ltOf, decide_eq_true_eq, cf_neg] at *; omega
  · simp only [ltOf, decide_eq_false_iff_not, cf_neg] at *; omega
theorem holds_of_R {w : World} {base : Nat} {v : Value} {xs : List JW} (h : Kd.R kJ 84 w base (fun _ => True) v (xs.map (·.1))) (hne : xs ≠ []) :
    ∃ g c, v = .slice (some ⟨g, 0, none⟩) xs.length c ∧ base ≤ g ∧ (∃ cur, w.heap[g]? = some (.cells cur 84 (0, 0))) ∧ HoldsK encJ 3 w g 0 xs.toArray := by
  obtain ⟨_, inner, ho, hr⟩ := h
  have hlen : (xs.map (·.1)).length = xs.length := by simp
  rw [hlen] at ho
  rcases ho.2 with ⟨_, h0⟩ | ⟨g, c, cur, rfl, hge, hg, hlc, hcm, hcs, htake⟩
  · exact absurd (List.eq_nil_of_length_eq_zero h0) hne
  · refine ⟨g, c, rfl, hge, ⟨cur, hg⟩, fun t ht => ?_⟩
    rw [size_flatK] at ht
    have ht' : t < xs.length * 3 := by simpa using ht
    refine ⟨?_, blk_frozen hg _⟩
    rw [Nat.zero_add, blk_cell hg t, get_flatK _ _ _ t ht]
    have hq : t / 3 < xs.length := by omega
    have hj := hr.2 (t / 3) (xs[t / 3]).1 (by rw [List.getElem?_map, List.getElem?_eq_getElem hq]; rfl)
    have hop := kJ_openM hj
    have hin : inner[t]? = (encJ xs[t / 3])[t % 3]? := by
      have e1 : ((inner.drop (t / 3 * 3)).take 3)[t % 3]? = inner[t]? := by
        rw [List.getElem?_take, if_pos (by omega), List.getElem?_drop]
        congr 1; omega
      rw [← e1]
      show ((inner.drop (t / 3 * kJ.sz)).take kJ.sz)[t % 3]? = _
      rw [hop]; rfl
    have hcur : cur[t]? = inner[t]? := by
      rw [← htake, List.getElem?_take, if_pos (by show t < xs.length * 3; omega)]
      simp
    show cur[t]? = some (id ((encJ (xs.toArray)[t / 3]!)[t % 3]!))
    rw [hcur, hin]
    have e2 : (xs.toArray)[t / 3]! = xs[t / 3] := by rw [getElem!_pos (xs.toArray) (t / 3) (by simpa using hq)]; simp
    rw [e2]
    have h3 : t % 3 < (encJ xs[t / 3]).length := by rw [encJ_len]; omega
    rw [List.getElem?_eq_getElem h3, getElem!_pos (encJ xs[t / 3]) (t % 3) h3]; rfl
theorem C_of_holds {w : World} {g : Nat} {xs : List JW} (h : HoldsK encJ 3 w g 0 xs.toArray) (hn : xs.length ≤ 9223372036854775807) : Kd.C kJ w (some ⟨g, 0, none⟩) xs.length (xs.map (·.1)) := by
  refine ⟨by simp, hn, fun _ => ⟨_, rfl, fun j q hj => ⟨[.int .i64 q.k, .int .i64 q.t, .int .i64 q.i], rfl, kJ_mk w q, fun i u hi => ?_⟩⟩⟩
  rw [List.getElem?_map] at hj
  obtain ⟨x, hx, rfl⟩ := Option.map_eq_some_iff.1 hj
  obtain ⟨hj1, rfl⟩ := List.getElem?_eq_some_iff.1 hx
  have hi3 : i < 3 := by
    have := (List.getElem?_eq_some_iff.1 hi).1
    simpa using this
  have hc := (h.cell (i := j) (c := i) (by simpa using hj1) hi3).1
  have e2 : (xs.toArray)[j]! = xs[j] := by rw [getElem!_pos (xs.toArray) j (by simpa using hj1)]; simp
  rw [e2] at hc
  have e3 : (encJ xs[j])[i]! = u := by
    have h3 : i < (encJ xs[j]).length := by rw [encJ_len]; exact hi3
    rw [getElem!_pos (encJ xs[j]) i h3]
    have : (encJ xs[j])[i]? = some u := hi
    rw [List.getElem?_eq_getElem h3] at this
    exact Option.some.inj this
  rw [e3, Nat.zero_add] at hc
  rw [add_plain]
  exact hc
theorem grownBy_sortK {w : World} {g n : Nat} {os : Array Obj} (d : Array JW) : w.grownBy (sortWorldK encJ 3 w g 0 n d os) (some g) := by
  refine ⟨rfl, rfl, rfl, by simp [sortWorldK, putRowK], fun k hk hne => ?_⟩
  unfold sortWorldK putRowK
  rw [heap_grow_old _ _ (by simpa using hk)]
  have : g ≠ k := fun e => hne (by rw [e])
  simp [putRow, mapBlock, Sort.ahead, Array.getElem?_modify, this]
theorem enters31 : ∀ args w, (callFunc 31 args).run Tryz.prog w = .ok (.enter 31 args) w := enters_of Tryz.func31 (by kernel_rfl) rfl
set_option maxRecDepth 100000 in
set_option maxHeartbeats 2000000 in
theorem sort_calls (W : World) (base : Nat) (v : Value) (l : List Job) (bl mb nn : Nat) (D : DataW Unit) (hR : Kd.R kJ 84 W base (fun _ => True) v l) (hwf : ∀ j ∈ l, j.wf) (hl : W.cell? ⟨bl, 0, none⟩ = some (.map (some mb))) (ho : W.ownsMap Tryz.prog 84 (plainElem Tryz.prog 2) mb nn D)
    (hbl : bl < base) (hmb : mb < base) (hb : base ≤ W.heap.size) (hsz : l.length ≤ 2000000) :
    Calls Tryz.prog 75 #[v, .func (.func 31) #[] #[.pointer (some ⟨bl, 0, none⟩)]] W fun e w' => e = .returned (.tuple #[]) ∧ ∃ A c l', v = .slice A l'.length c ∧ l'.Perm l ∧ Kd.C kJ w' A l'.length l' ∧ Below base W w' := by
  by_cases hnil : l = []
  · subst hnil
    obtain ⟨A, c, rfl, hle, hC⟩ := Kd.R_reads hR
    have hcon := AnyF.slices_SortFunc_none Tryz.sortFunc A c (.func (.func 31) #[] #[.pointer (some ⟨bl, 0, none⟩)]) W
    change Calls Tryz.prog 75 _ _ _ at hcon
    refine hcon.mono ?_
    rintro e w' ⟨rfl, rfl⟩
    exact ⟨rfl, A, c, [], rfl, List.Perm.refl _, hC, Below.refl _ _⟩
  · obtain ⟨xs, rfl⟩ := lift_wf l hwf
    have hne : xs ≠ [] := fun e => hnil (by rw [e]; rfl)
    have hlen : (xs.map (·.1)).length = xs.length := by simp
    rw [hlen] at hsz
    obtain ⟨g, c, rfl, hge, ⟨cur, hg⟩, hH⟩ := holds_of_R hR hne
    have hcmp : CmpLays Tryz.prog 31 #[.pointer (some ⟨bl, 0, none⟩)] encJ 3 (fun x y : JW => cfJ D x.1 y.1) g 0 xs.toArray.size W := fun m os dk hdk x y => by
      have hgr := grownBy_sortK (w := W) (g := g) (n := m) (os := os) dk
      exact needed1_calls _ bl mb nn D x.1 y.1 x.2 y.2 ((World.cell?_of_block (hgr.block bl (World.block_lt_of_cell? W _ hl) (fun e => by cases e; omega))).trans hl) (ho.kept hgr (fun e => by cases e; omega))
    have hcon := AnyQ.slices_SortFunc Tryz.sortFunc 3 Tryz.isAgg84 Tryz.sizeOf84 encJ encJ_len encJ_one (fun x y : JW => cfJ D x.1 y.1) (cf_swo D) 31 #[.pointer (some ⟨bl, 0, none⟩)] g 0 c xs.toArray W enters31 hcmp hH (blk_lt hg) (by simp; omega)
    change Calls Tryz.prog 75 _ _ _ at hcon
    simp only [List.size_toArray] at hcon
    refine hcon.mono ?_
    rintro e w' ⟨rfl, d', n, os, hp, _, rfl⟩
    have hds : d'.size = xs.length := by have := hp.1; simpa using this
    have hperm : d'.toList.Perm xs := by
      have h3 := hp.2.2
      have e1 : d'.extract 0 xs.length = d' := by rw [← hds]; simp
      rw [e1] at h3
      have e2 : (xs.toArray.extract 0 xs.length).toList = xs := by simp
      rw [e2] at h3
      exact h3
    have hH' : HoldsK encJ 3 (sortWorldK encJ 3 W g 0 n d' os) g 0 d' := holdsK_sortWorldK_c encJ 3 W g 0 xs.toArray d' n os hH (blk_lt hg) (by simpa using hds)
    have hC := C_of_holds (xs := d'.toList) (by simpa using hH') (by simp; omega)
    have hl1 : d'.toList.length = xs.length := by simpa using hds
    refine ⟨rfl, some ⟨g, 0, none⟩, c, d'.toList.map (·.1), by simp [hds], hperm.map _, ?_, (Below.refl base W).grown (grownBy_sortK d') hb (fun k e => by cases e; exact hge)⟩
    rw [List.length_map]
    exact hC
theorem sorted_calls (W : World) (bx bl mb nn : Nat) (D : DataW Unit) (hbx : W.cell? ⟨bx, 0, none⟩ = some (.map (some mb))) (hl : W.cell? ⟨bl, 0, none⟩ = some (.map (some mb))) (hown : W.ownsMap Tryz.prog 84 (plainElem Tryz.prog 2) mb nn D) (hsz : nn ≤ 2000000) :
    Calls Tryz.prog 29 #[.func (.func 76) #[] #[.pointer (some ⟨bx, 0, none⟩)], .func (.func 31) #[] #[.pointer (some ⟨bl, 0, none⟩)]] W fun e w' => ∃ A c xs, e = .returned (.slice A xs.length c) ∧ AllJ D xs ∧ Kd.C kJ w' A xs.length xs ∧ Below W.heap.size W w' := by
  have HX := Aside0.mk hbx
  have HL := Aside0.mk hl
  have HO := Aside0.mk hown
  have HSZ := Aside0.mk hsz
  clear hbx hl hown hsz
  go_enter Tryz.func29, Tryz.ntmps29
  go_wp2_with (first
    | (go_at_call 74; refine (collect_calls _ bx mb nn D HX.out HO.out HSZ.out).mono ?_; rintro e w1 ⟨v, xs, rfl, hA, hR, hB⟩; have H1 := Aside0.mk hA; have H2 := Aside0.mk hR; have H3 := Aside0.mk hB; clear hA hR hB; obtain ⟨A0, n0, c0, hv0⟩ := R_slice' H2.out; subst hv0)
    | (go_at_call 75; refine (sort_calls w1 W.heap.size (.slice A0 n0 c0) xs bl mb nn D H2.out (fun j hj => ((H1.out.2.2 j).1 hj).1) (pw_cell_below H3.out HL.out) (HO.out.kept (grown_of_below H3.out none) (by simp)) (World.block_lt_of_cell? W _ HL.out) HO.out.lt H3.out.size (by have := H1.out.2.1; have := HO.out.size_le; have := HSZ.out; omega)).mono ?_; rintro e w2 ⟨rfl, A, c, l', hv, hp, hC, hb2⟩; have H4 := Aside0.mk hv; have H5 := Aside0.mk hp; have H6 := Aside0.mk hC; have H7 := Aside0.mk (H3.out.trans hb2); clear hv hp hC hb2)
    | fail)
  go_ret
  refine ⟨A, c, l', by rw [← H4.out]; rfl, ⟨H5.out.nodup_iff.2 H1.out.1, by rw [H5.out.length_eq]; exact H1.out.2.1, fun j => H5.out.mem_iff.trans (H1.out.2.2 j)⟩, H6.out, H7.out⟩
end Go.Proofs.YthhmfeiefbnhcaaGreat.Due
namespace Go.Proofs.YthhmfeiefbnhcaaGreat.Due
open Go.RowKit Go.Maps Go.Proofs.YthhmfeiefbnhcaaGreat.PDueParts Go.Proofs.YthhmfeiefbnhcaaGreatW.PrintWords Go.Proofs.YthhmfeiefbnhcaaGreatW.PrintLast
set_option linter.unusedVariables false
set_option linter.unusedSimpArgs false
structure Listed (l : List S183) (p : Pol) (hour floor : Int) (sw : Bool) (hs : List Int) (xs : List Job) : Prop where
  once : xs.Nodup
  all : ∀ j : Job, j ∈ xs ↔ j.wf ∧ gathM l p hour floor (hs.filter fun x => !decide (x < floor)) sw j
  few : xs.length ≤ 2000000
set_option maxRecDepth 100000 in
set_option maxHeartbeats 4000000 in
theorem needed_calls (W : World) (cb ob : Nat) (A : Option Addr) (c : Nat) (l : List S183) (Ah : Option Addr) (nh ch : Nat) (p : Pol) (hour floor : Int) (sw : Bool) (hs : List Int)
    (hC : CatAt W cb ob A c l) (hr : Rising l) (hsz : l.length ≤ 1000) (hok : p.ok) (hh : 0 ≤ hour ∧ hour ≤ 1099511627776) (hwf : ∀ q ∈ l, in64 q.f1.f0.f0 ∧ in64 q.f1.f0.f1)
    (hH : Kd.C (Kd.int .i64) W Ah nh hs) (hnh : nh ≤ 1000) (hn : Ah = none → ch = 0) :
    Calls Tryz.prog 8 #[.agg #[.pointer (some ⟨cb, 0, none⟩), .slice Ah nh ch, .int .i64 p.r0, .int .i64 p.r1, .int .i64 p.r2, .int .i64 p.r3, .int .i64 p.r4, .int .i64 p.r5, .int .i64 p.r6, .int .i64 p.r7, .int .i64 p.r8, .int .i64 hour, .int .i64 floor, .bool sw]] W fun e w' => ∃ A' c' xs, e = .returned (.slice A' xs.length c') ∧ Listed l p hour floor sw hs xs ∧ Kd.C kA w' A' xs.length xs ∧ Below W.heap.size W w' := by
  have HC := Aside0.mk hC
  have HR := Aside0.mk hr
  have HSZ := Aside0.mk hsz
  have HOK := Aside0.mk hok
  have HH := Aside0.mk hh
  have HWF := Aside0.mk hwf
  have HHS := Aside0.mk hH
  have HNH := Aside0.mk hnh
  have HN := Aside0.mk hn
  have HB := Aside0.mk (Below.refl W.heap.size W)
  clear hC hr hsz hok hh hwf hH hnh hn
  go_enter Tryz.func8, Tryz.ntmps8
  go_wp2_with (first
    | ((with_reducible refine gate_dst (N := 1) rfl ?_); refine box_event ?hg (N := 1) ?hd (cs := #[.pointer (some ⟨cb, 0, none⟩), .slice Ah nh ch, .int .i64 p.r0, .int .i64 p.r1, .int .i64 p.r2, .int .i64 p.r3, .int .i64 p.r4, .int .i64 p.r5, .int .i64 p.r6, .int .i64 p.r7, .int .i64 p.r8, .int .i64 hour, .int .i64 floor, .bool sw]) (t := 30) ?hr ?_; (case hd => rfl); (case hg => rfl); (case hr => first | (go_simp; done) | (go_simp; rfl)); intro b1 hb1 w1 Kb1 hb_; have Gb1 := Aside0.mk (by rw [hb1]; exact HB.out.size : W.heap.size ≤ b1); replace HB := Aside0.mk (below_step HB.out hb_); clear hb1; clear hb_; have cb1_0 := blk_cell Kb1 0; have cb1_1 := blk_cell Kb1 1; have cb1_2 := blk_cell Kb1 2; have cb1_3 := blk_cell Kb1 3; have cb1_4 := blk_cell Kb1 4; have cb1_5 := blk_cell Kb1 5; have cb1_6 := blk_cell Kb1 6; have cb1_7 := blk_cell Kb1 7; have cb1_8 := blk_cell Kb1 8; have cb1_9 := blk_cell Kb1 9; have cb1_10 := blk_cell Kb1 10; have cb1_11 := blk_cell Kb1 11; have cb1_12 := blk_cell Kb1 12; have cb1_13 := blk_cell Kb1 13; simp only [List.getElem?_toArray, List.getElem?_cons_zero, List.getElem?_cons_succ] at cb1_0 cb1_1 cb1_2 cb1_3 cb1_4 cb1_5 cb1_6 cb1_7 cb1_8 cb1_9 cb1_10 cb1_11 cb1_12 cb1_13; replace Kb1 := Aside0.mk Kb1)
    | (go_at_call 28; refine (gathered_calls _ cb ob A c l Ah nh ch p hour floor sw hs (HC.out.below HB.out) HR.out HSZ.out HOK.out HH.out HWF.out (Kd.C_below HHS.out HB.out) HNH.out HN.out).mono ?_; rintro e w2 ⟨mb, nn, rfl, hJ, hnn, hmb, hb_⟩; obtain ⟨D, hO, hD⟩ := hJ.own; have HO := Aside0.mk hO; have HD := Aside0.mk hD; have HNN := Aside0.mk hnn; clear hJ hO hD hnn hmb Kb1 cb1_0 cb1_1 cb1_2 cb1_3 cb1_4 cb1_5 cb1_6 cb1_7 cb1_8 cb1_9 cb1_10 cb1_11 cb1_12 cb1_13; replace HB := Aside0.mk (below_step HB.out hb_); clear hb_)
    | ((with_reducible refine gate_dst (N := 3) rfl ?_); refine box_event ?hg (N := 3) ?hd (cs := #[.map none]) (t := 79) ?hr ?_; (case hd => rfl); (case hg => rfl); (case hr => first | (go_simp; done) | (go_simp; rfl)); intro b3 hb3 w3 Kb3 hb_; have Gb3 := Aside0.mk (by rw [hb3]; exact HB.out.size : W.heap.size ≤ b3); have N3 := Aside0.mk (by have := HO.out.lt; omega : b3 ≠ mb); replace HO := Aside0.mk (HO.out.kept (grown_of_below hb_ none) (by simp)); replace HB := Aside0.mk (below_step HB.out hb_); clear hb3; clear hb_; replace Kb3 := Aside0.mk Kb3)
    | (refine store_one rfl 79 (.tmp 3) (.tmp 7) rfl rfl b3 (.map (some mb)) 79 _ rfl rfl Kb3.out size79 (by simp [Value.oneCell']) ?_; intro w4 k_ g_; replace HB := Aside0.mk (HB.out.grown g_ HB.out.size (fun r e => by cases e; exact Gb3.out)); replace HO := Aside0.mk (HO.out.kept g_ (fun e => N3.out (Option.some.inj e).symm)); clear Kb3; have Kb3 := Aside0.mk k_; clear k_ g_; have cb3_0 := blk_cell Kb3.out 0; simp only [List.getElem?_toArray, List.getElem?_cons_zero, List.getElem?_cons_succ] at cb3_0)
    | (go_at_call 30; refine (keys_calls _ mb).mono ?_; rintro e w5 ⟨bx, rfl, hbx, hb_⟩; replace HO := Aside0.mk (HO.out.kept (grown_of_below hb_ none) (by simp)); have HX := Aside0.mk hbx; clear hbx; replace HB := Aside0.mk (below_step HB.out hb_); replace cb3_0 := pw_cell_below hb_ cb3_0; clear hb_)
    | (go_at_call 29; refine (sorted_calls _ bx b3 mb nn D HX.out cb3_0 HO.out HNN.out).mono ?_; rintro e w6 ⟨A6, c6, xs, rfl, hA, hC6, hb_⟩; have HA := Aside0.mk hA; have HC6 := Aside0.mk hC6; have HLN := Aside0.mk (show xs.length ≤ 2000000 by have := hA.2.1; have := HO.out.size_le; have := HNN.out; omega); clear hA hC6 cb3_0 Kb3 HX HO; replace HB := Aside0.mk (below_step HB.out hb_); clear hb_)
    | fail)
  have HBW := HB
  clear HB
  go_loopw [2, 13] (fun v i wr => ∃ k : Nat, k ≤ xs.length ∧ i = .int .i64 k ∧ Aside0 (Kd.R kA 40 wr w6.heap.size (fun _ => True) v (xs.take k)) ∧ Aside0 (Below w6.heap.size w6 wr))
    (fun _ i _ => xs.length - (intOf i).toNat)
  case atStart => exact ⟨0, Nat.zero_le _, rfl, ⟨Kd.R_nil _ _ _ _ _⟩, ⟨Below.refl _ _⟩⟩
  case round =>
    obtain ⟨k, hk, rfl, hR, hB⟩ := hrel
    by_cases hlt : k < xs.length
    · obtain ⟨ad, hA, h0, h1, h2⟩ := at_J (Kd.C_below HC6.out hB.out) k hlt
      obtain ⟨x, hx⟩ : ∃ x, xs[k] = x := ⟨_, rfl⟩
      rw [hx] at h0 h1 h2
      have HXX := Aside0.mk (show xs.take (k + 1) = xs.take k ++ [x] by rw [← hx, List.take_succ_eq_append_getElem hlt])
      have HLB := Aside0.mk (show ((xs.take k).length + 1) * 40 ≤ 140737488355328 by have := HLN.out; rw [List.length_take]; omega)
      have hkb : (k : Int) < 9223372036854775807 := by have := HLN.out; omega
      subst hA
      obtain ⟨A0, n0, c0, hv0⟩ := R_slice' hR.out
      subst hv0
      have HRR := hR
      have HB := hB
      clear hR hB hx
      go_wp2_with (first
        | ((with_reducible refine gate_dst (N := 5) rfl ?_); refine box_event ?hg (N := 5) ?hd (cs := #[.int .i64 0, .int .i64 0, .int .i64 0]) (t := 84) ?hr ?_; (case hd => rfl); (case hg => rfl); (case hr => first | (go_simp; done) | (go_simp; rfl)); intro b5 hb5 w7 Kb5 hb_; have Gb5 := Aside0.mk (by rw [hb5]; exact HB.out.size : w6.heap.size ≤ b5); replace HRR := Aside0.mk (Kd.R_below HRR.out hb_); replace HB := Aside0.mk (below_step HB.out hb_); clear hb5; clear hb_; replace Kb5 := Aside0.mk Kb5)
        | (refine store_agg rfl 84 (.tmp 5) (.tmp 16) rfl rfl b5 #[.int .i64 x.k, .int .i64 x.t, .int .i64 x.i] 84 _ rfl rfl Kb5.out size84 rfl (by simp [Value.oneCell']) ?_; intro w8 k_ g_; replace HB := Aside0.mk (HB.out.grown g_ HB.out.size (fun r e => by cases e; exact Gb5.out)); replace HRR := Aside0.mk (R_other HRR.out Kb5.out (by decide) g_); clear Kb5; have Kb5 := Aside0.mk k_; clear k_ g_; have cb5_0 := blk_cell Kb5.out 0; have cb5_1 := blk_cell Kb5.out 1; have cb5_2 := blk_cell Kb5.out 2; simp only [List.getElem?_toArray, List.getElem?_cons_zero, List.getElem?_cons_succ] at cb5_0 cb5_1 cb5_2)
        | ((with_reducible refine gate_dst (N := 23) rfl ?_); refine brow_event ?hg (N := 23) ?hd (cs := #[.int .i64 x.k, .int .i64 x.t, .int .i64 x.i, .int .i64 0, .int .i64 0]) (t := 40) (n := 1) ?hr ?_; (case hd => rfl); (case hg => rfl); (case hr => first | (go_simp; done) | (go_simp; rfl)); intro b23 hb23 w9 Kb23 hb_; have Gb23 := Aside0.mk (by rw [hb23]; exact HB.out.size : w6.heap.size ≤ b23); replace HB := Aside0.mk (below_step HB.out hb_); clear hb23; replace HRR := Aside0.mk (Kd.R_below HRR.out hb_); clear hb_; replace Kb23 := Aside0.mk Kb23)
        | ((with_reducible refine gate_dst (N := 24) rfl ?_); refine Kd.R_append_rows kA (w0 := w6) w6.heap.size rfl (.tmp 17) (.tmp 23) 35 40 ((.agg #[(.int .i64 0), (.int .i64 0), (.int .i64 0), (.int .i64 0), (.int .i64 0)])) 40 rfl Tryz.underlying35 info40 rfl (by decide) (by omega) (.slice A0 n0 c0) (xs.take k) [x] (some ⟨b23, 0, none⟩) 1 1 (fun _ => True) (fun _ => False) rfl rfl HRR.out ((fun h => reads_row (d := kA) (p := x) (cs := [.int .i64 x.k, .int .i64 x.t, .int .i64 x.i, .int .i64 0, .int .i64 0]) h rfl) Kb23.out) (fun _ _ h => by obtain ⟨rfl, rfl⟩ := h; exact kA_mkM _ _ _ _) (fun _ h => h.elim) (fun _ _ => trivial) HB.out HB.out.size HLB.out ?_; intro v1 w10 hR1 hb1 hg1 _; clear HRR HB Kb23; have HRR := Aside0.mk hR1; have HB := Aside0.mk hb1; clear hR1 hb1 hg1; obtain ⟨A1, n1, c1, hv1⟩ := R_slice' HRR.out; subst hv1)
        | fail)
      go_roundw
      case rel => exact ⟨k + 1, by omega, by go_num, ⟨by rw [HXX.out]; exact HRR.out⟩, HB⟩
      case measure => simp [intOf]; omega
    · obtain rfl : k = xs.length := by omega
      have HRR := Aside0.mk (show Kd.R kA 40 wr w6.heap.size (fun _ => True) u2 xs by rw [← List.take_length (l := xs)]; exact hR.out)
      obtain ⟨A2, c2, hv, hle, hC2⟩ := Kd.R_reads HRR.out
      have HC2 := Aside0.mk hC2
      have HB := hB
      subst hv
      clear hR hC2 hB hle
      go_wp2
      go_ret
      exact ⟨A2, c2, xs, rfl, ⟨HA.out.1, fun j => (HA.out.2.2 j).trans ⟨fun h => ⟨h.1, (HD.out j h.1).1 h.2⟩, fun h => ⟨h.1, (HD.out j h.1).2 h.2⟩⟩, HLN.out⟩, HC2.out, HBW.out.trans (HB.out.mono HBW.out.size)⟩
end Go.Proofs.YthhmfeiefbnhcaaGreat.Due
namespace Go.Proofs.YthhmfeiefbnhcaaGreat.Due
open Go.RowKit Go.Proofs.YthhmfeiefbnhcaaGreat.PDueParts Go.Proofs.YthhmfeiefbnhcaaGreatW.PrintWords Go.Proofs.YthhmfeiefbnhcaaGreatW.PrintLast
set_option linter.unusedVariables false
set_option linter.unusedSimpArgs false
def plainP : Pol := ⟨2000, 1, 2, 24, 48, 2, 60, 16, 4000⟩
theorem plain_ok : plainP.ok := by unfold Pol.ok plainP; decide
theorem tgt_alive : tgtB [] plainP 7 5 = true ∧ tgtT [] plainP 7 5 = 1 ∧ tgtI [] plainP 7 5 = 5 := by decide
theorem alive_list {xs : List Job} (h : Listed [] plainP 7 0 false [5] xs) : xs = [⟨2, 1, 5⟩] := by
  have key : ∀ j : Job, j ∈ xs ↔ j = ⟨2, 1, 5⟩ := fun j => by
    rw [h.all j]
    have e : ([5].filter fun x : Int => !decide (x < 0)) = [5] := by decide
    rw [e]
    obtain ⟨t1, t2, t3⟩ := tgt_alive
    unfold gathM buildJ
    constructor
    · rintro ⟨_, (⟨q, hq, _⟩ | ⟨y, hy, _, _, hj⟩ | ⟨hs, _⟩)⟩
      · simp at hq
      · obtain rfl : y = 5 := by simpa using hy
        rw [t2, t3] at hj; exact hj
      · cases hs
    · rintro rfl
      refine ⟨⟨by show in64 2; unfold in64; omega, by show in64 1; unfold in64; omega, by show in64 5; unfold in64; omega⟩, .inr (.inl ⟨5, by simp, t1, by rw [t2]; omega, by rw [t2, t3]⟩)⟩
  have hm : (⟨2, 1, 5⟩ : Job) ∈ xs := (key _).2 rfl
  match xs, h.once, key, hm with
  | [], _, _, hm => simp at hm
  | [a], _, key, _ => rw [(key a).1 (by simp)]
  | a :: b :: r, hn, key, _ =>
    have ha := (key a).1 (by simp)
    have hb := (key b).1 (by simp)
    rw [ha, hb] at hn
    simp at hn
theorem C_five {w : World} {b : Nat} (h : w.heap[b]? = some (.cells #[.int .i64 5] 2 (0, 0))) : Kd.C (Kd.int .i64) w (some ⟨b, 0, none⟩) 1 [5] :=
  C_int (xs := [5]) (by decide) (fun j hj => by
    have h0 : j = 0 := by simpa using hj
    subst h0
    rw [blk_cell h 0]; rfl)
set_option maxRecDepth 100000 in
set_option maxHeartbeats 4000000 in
theorem alive_calls (W : World) : Calls Tryz.prog 7 #[] W fun e w' => e = .returned (.bool true) ∧ Below W.heap.size W w' := by
  have HB := Aside0.mk (Below.refl W.heap.size W)
  have hq : ∀ w : World, (binOp .eql 40 (.agg #[.int .i64 2, .int .i64 1, .int .i64 5, .int .i64 0, .int .i64 0]) (.agg #[.int .i64 2, .int .i64 1, .int .i64 5, .int .i64 0, .int .i64 0])).run Tryz.prog w = .ok (.bool true) w := fun w => by kernel_rfl
  go_enter Tryz.func7, Tryz.ntmps7
  go_wp2_with (first
    | (go_at_call 24; refine (cnew_calls _).mono ?_; rintro e w1 ⟨cb, ob, rfl, hCO, _, hb_⟩; have HCO := Aside0.mk hCO; clear hCO; replace HB := Aside0.mk (below_step HB.out hb_); clear hb_)
    | ((with_reducible refine gate_dst (N := 3) rfl ?_); refine brow_event ?hg (N := 3) ?hd (cs := #[.int .i64 5]) (t := 2) (n := 1) ?hr ?_; (case hd => rfl); (case hg => rfl); (case hr => first | (go_simp; done) | (go_simp; rfl)); intro b3 hb3 w2 Kb3 hb_; have Gb3 := Aside0.mk (by rw [hb3]; exact HB.out.size : W.heap.size ≤ b3); replace HB := Aside0.mk (below_step HB.out hb_); clear hb3; replace HCO := Aside0.mk (HCO.out.below hb_); clear hb_; replace Kb3 := Aside0.mk Kb3)
    | (go_at_call 27; refine (ossuaryref18_Plain.calls _ _ _ _ _ _ _ _ _ _ rfl).mono ?_; rintro e w3 ⟨rfl, hb_⟩; replace HB := Aside0.mk (below_step HB.out hb_); replace HCO := Aside0.mk (HCO.out.below hb_); replace Kb3 := Aside0.mk ((hb_.block _ (blk_lt Kb3.out)).trans Kb3.out); clear hb_; obtain ⟨A, c, hCA⟩ := HCO.out.at_; have HCA := Aside0.mk hCA; clear hCA)
    | (go_at_call 8; refine (needed_calls w3 cb ob A c [] (some ⟨b3, 0, none⟩) 1 1 plainP 7 0 false [5] HCA.out List.Pairwise.nil (by decide) plain_ok (by omega) (fun q h => by simp at h) (C_five Kb3.out) (by omega) (fun h => by cases h)).mono ?_; rintro e w4 ⟨A', c', xs, rfl, hL, hC, hb_⟩; obtain rfl := alive_list hL; have HC := Aside0.mk hC; clear hL hC; replace HB := Aside0.mk (below_step HB.out hb_); clear hb_; obtain ⟨ad, hA, h0, h1, h2, h3, h4⟩ := at_A HC.out 0 (by decide); subst hA; rw [Nat.zero_mul, Addr.add_zero'] at h0 h1 h2 h3 h4; simp only [List.getElem_cons_zero] at h0 h1 h2)
    | fail)
  go_ret
  exact ⟨rfl, HB.out⟩
end Go.Proofs.YthhmfeiefbnhcaaGreat.Due
namespace Go.Proofs.YthhmfeiefbnhcaaGreat.Due
open Go.RowKit Go.Proofs.YthhmfeiefbnhcaaGreat.PDueParts Go.Proofs.YthhmfeiefbnhcaaGreatW.PrintWords
set_option linter.unusedVariables false
theorem best_cases (p : Pol) (x hour : Int) : bestP p x hour = 0 ∨ (okH x = true ∧ (bestP p x hour = 1 ∨ bestP p x hour = 2 ∨ bestP p x hour = 3) ∧ dueP p (bestP p x hour) (idx (bestP p x hour) x) hour = true) := by
  unfold bestP
  by_cases hx : okH x = true
  · rw [if_pos hx]
    by_cases h3 : dueP p 3 (idx 3 x) hour = true
    · rw [if_pos h3]; exact .inr ⟨hx, .inr (.inr rfl), h3⟩
    · rw [if_neg h3]
      by_cases h2 : dueP p 2 (idx 2 x) hour = true
      · rw [if_pos h2]; exact .inr ⟨hx, .inr (.inl rfl), h2⟩
      · rw [if_neg h2]
        by_cases h1 : dueP p 1 (idx 1 x) hour = true
        · rw [if_pos h1]; exact .inr ⟨hx, .inl rfl, h1⟩
        · rw [if_neg h1]; exact .inl rfl
  · rw [if_neg hx]; exact .inl rfl
theorem best_ge {p : Pol} {x hour t : Int} (hx : okH x = true) (ht : t = 1 ∨ t = 2 ∨ t = 3) (h : dueP p t (idx t x) hour = true) : t ≤ bestP p x hour := by
  unfold bestP
  rw [if_pos hx]
  by_cases h3 : dueP p 3 (idx 3 x) hour = true
  · rw [if_pos h3]; omega
  · rw [if_neg h3]
    have n3 : t ≠ 3 := by rintro rfl; exact h3 h
    by_cases h2 : dueP p 2 (idx 2 x) hour = true
    · rw [if_pos h2]; omega
    · rw [if_neg h2]
      have n2 : t ≠ 2 := by rintro rfl; exact h2 h
      obtain rfl : t = 1 := by omega
      rw [if_pos h]; omega
structure IsB (l : List S183) (p : Pol) (hour x m j : Int) : Prop where
  okx : okH x = true
  m13 : m = 1 ∨ m = 2 ∨ m = 3
  m_eq : m = max (atD l x).f0.f0 (bestP p x hour)
  j_eq : j = idx m x
theorem IsB.of {l : List S183} {p : Pol} {hour x : Int} (h : tgtB l p hour x = true) : IsB l p hour x (tgtT l p hour x) (tgtI l p hour x) := by
  unfold tgtB at h
  by_cases hz : bestP p x hour = 0
  · rw [if_pos hz] at h; cases h
  · rw [if_neg hz] at h
    obtain ⟨h1, h2⟩ := Bool.and_eq_true_iff.1 h
    have e : tgtT l p hour x = tgtM l p hour x := by
      unfold tgtT
      rw [if_neg hz, ofT, if_pos h]
    have e2 : tgtI l p hour x = idx (tgtM l p hour x) x := by
      unfold tgtI
      rw [if_neg hz, ofI, if_pos h]
    exact ⟨h1, by rw [e]; exact (okT_iff _).1 h2, by rw [e]; rfl, by rw [e, e2]⟩
theorem IsB.in_ {l : List S183} {p : Pol} {hour x m j : Int} (h : IsB l p hour x m j) : lo m j ≤ x ∧ x < lo m (j + 1) ∧ rightP m j = true := by
  rw [h.j_eq]
  exact idx_lo h.m13 h.okx
theorem IsB.nonneg {l : List S183} {p : Pol} {hour x m j : Int} (h : IsB l p hour x m j) : 0 ≤ j := (right_t h.in_.2.2).2.1
theorem IsB.top {l : List S183} {p : Pol} {hour x m j y u i : Int} (hG : GoodL l) (h : IsB l p hour x m j) (k : IsB l p hour y u i) (hx1 : lo u i ≤ x) (hx2 : x < lo u (i + 1)) : u ≤ m := by
  apply Classical.byContradiction
  intro hlt
  have hy := k.in_
  have hm := h.m_eq
  have hu := k.m_eq
  have hi : idx u x = i := idx_uniq k.m13 h.okx k.nonneg hx1 hx2
  by_cases hb : bestP p y hour = u
  · rcases best_cases p y hour with h0 | ⟨_, _, hd⟩
    · have := k.m13; omega
    · rw [hb, ← k.j_eq, ← hi] at hd
      have := best_ge h.okx k.m13 hd
      omega
  · have ha : (atD l y).f0.f0 = u := by omega
    by_cases hI : atI l y = true
    · obtain ⟨q, hq, h1, h2, h3⟩ := hG.of_at hI
      rw [h3] at ha
      have hqr := hG.right q hq
      have hqk := hG.key q hq
      have hqs := right_t hqr
      rw [hqk, from_lo hqr] at h1
      unfold pEnd at h2
      rw [end_lo hqr] at h2
      have hq1 : q.f1.f0.f1 = i := same_idx (y := y) k.m13 hqs.2.1 k.nonneg (by rw [← ha]; exact h1) (by rw [← ha]; exact h2) hy.1 hy.2.1
      have hax := (hG.at_of hq (x := x) (by rw [hqk, from_lo hqr, ha, hq1]; exact hx1) (by unfold pEnd; rw [end_lo hqr, ha, hq1]; exact hx2)).2
      rw [hax, ha] at hm
      omega
    · rw [atD, if_neg hI] at ha
      have := k.m13
      have : z43.f0.f0 = 0 := rfl
      omega
theorem meets_iff {t i u j : Int} : meetsP t i u j = true ↔ rightP t i = true ∧ rightP u j = true ∧ lo t i < lo u (j + 1) ∧ lo u j < lo t (i + 1) := by
  unfold meetsP
  by_cases h1 : rightP t i = true
  · by_cases h2 : rightP u j = true
    · rw [h1, h2, from_lo h1, from_lo h2, end_lo h1, end_lo h2]; simp
    · simp [h2]
  · simp [h1]
theorem meet_pt {t i u j : Int} (h : meetsP t i u j = true) : ∃ y, lo t i ≤ y ∧ y < lo t (i + 1) ∧ lo u j ≤ y ∧ y < lo u (j + 1) := by
  obtain ⟨h1, h2, h3, h4⟩ := meets_iff.1 h
  have := lo_bd h1
  have := lo_bd h2
  exact ⟨max (lo t i) (lo u j), by omega, by omega, by omega, by omega⟩
theorem build_one {l : List S183} {p : Pol} {hour x m j y u i : Int} (hG : GoodL l) (h : IsB l p hour x m j) (k : IsB l p hour y u i) (hm : meetsP m j u i = true) : m = u ∧ j = i := by
  obtain ⟨z, h1, h2, h3, h4⟩ := meet_pt hm
  have hx := h.in_
  have hy := k.in_
  have e : m = u := by
    rcases Int.lt_trichotomy m u with c | c | c
    · have hl := laminar h.m13 k.m13 (by omega) h.nonneg k.nonneg h1 h2 h3 h4
      have := h.top hG k (by omega) (by omega)
      omega
    · exact c
    · have hl := laminar k.m13 h.m13 (by omega) k.nonneg h.nonneg h3 h4 h1 h2
      have := k.top hG h (by omega) (by omega)
      omega
  subst e
  exact ⟨rfl, same_idx h.m13 h.nonneg k.nonneg h1 h2 h3 h4⟩
theorem build_over {l : List S183} {p : Pol} {hour x m j : Int} (hG : GoodL l) (h : IsB l p hour x m j) {q : S183} (hq : q ∈ l) (hm : meetsP m j q.f1.f0.f0 q.f1.f0.f1 = true) : withinP q.f1.f0.f0 q.f1.f0.f1 m j = true := by
  obtain ⟨z, h1, h2, h3, h4⟩ := meet_pt hm
  have hx := h.in_
  have hqr := hG.right q hq
  have hqk := hG.key q hq
  obtain ⟨t13, t0, _⟩ := right_t hqr
  have hle : q.f1.f0.f0 ≤ m := by
    apply Classical.byContradiction
    intro hn
    have hl := laminar h.m13 t13 (by omega) h.nonneg t0 h1 h2 h3 h4
    have hax := (hG.at_of hq (x := x) (by rw [hqk, from_lo hqr]; omega) (by unfold pEnd; rw [end_lo hqr]; omega)).2
    have hme := h.m_eq
    rw [hax] at hme
    omega
  have hl := laminar t13 h.m13 hle t0 h.nonneg h3 h4 h1 h2
  unfold withinP
  rw [hqr, hx.2.2, from_lo hqr, from_lo hx.2.2, end_lo hqr, end_lo hx.2.2]
  simp
  exact hl
theorem due_has {l : List S183} {p : Pol} {hour x : Int} (hG : GoodL l) (hb : bestP p x hour ≠ 0) : tgtB l p hour x = true ∧ hasP (tgtT l p hour x) (tgtI l p hour x) x = true ∧ 0 < tgtT l p hour x := by
  rcases best_cases p x hour with h0 | ⟨hx, h13, _⟩
  · exact absurd h0 hb
  · have ht : 0 ≤ (atD l x).f0.f0 ∧ (atD l x).f0.f0 ≤ 3 := by
      by_cases hI : atI l x = true
      · obtain ⟨q, hq, _, _, h3⟩ := hG.of_at hI
        rw [h3]
        have := (right_t (hG.right q hq)).1
        omega
      · rw [atD, if_neg hI]
        have : z43.f0.f0 = 0 := rfl
        omega
    have hB : tgtB l p hour x = true := by
      unfold tgtB
      rw [if_neg hb, hx, Bool.true_and, okT_iff]
      unfold tgtM
      omega
    have hI := IsB.of hB
    refine ⟨hB, ?_, by have := hI.m13; omega⟩
    obtain ⟨h1, h2, h3⟩ := hI.in_
    rw [hasP_iff h3, from_lo h3, end_lo h3]
    exact ⟨h1, h2⟩
end Go.Proofs.YthhmfeiefbnhcaaGreat.Due
