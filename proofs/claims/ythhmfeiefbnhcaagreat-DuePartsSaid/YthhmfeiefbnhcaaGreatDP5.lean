/-
  Part 5 of the proof: Shelf DOmap1 DSeq DEach DReg DCopy DIns0 DIns DIns2 DPut DFloor DPartC DPartD.
-/
import Derived.Shelf.SlSorted.Search
import Derived.Test.YthhmfeiefbnhcaaGreatProg
import Derived.RangeFuncNested
import Derived.RangeFuncBound
import Derived.RangeFuncCalls
import Derived.RangeFuncLeaves
import Derived.Shelf.Abstract
import Derived.Shelf.AbstractIn
import Derived.Shelf.RegionOpen
import Derived.WalkKit
import Derived.OwnWalkIn
import Derived.TacticsInMore
import Derived.LoopNIn
import Derived.LoopIn
import Derived.Laws.CopyOwn
import Derived.Lib.Overlaps
import Derived.Great.BuildSlice
import Derived.Test.YthhmfeiefbnhcaaGreatDP4
namespace Go.Proofs
open Go.Shelf
def Tryz.search_ren : Go.Shelf.Ren := ⟨fun | 16 => 136 | n => n, fun | 3 => 3 | 35 => 155 | 4 => 4 | 38 => 196 | n => n, fun | n => n⟩
theorem Tryz.search : Go.Proofs.SlLaysO.n16 Tryz.prog Tryz.search_ren := {
  mixed := by kernel_rfl
  f16 := Tryz.func136.trans (congrArg some (by kernel_rfl))
  t3 := Tryz.underlying3
  a3 := Tryz.isAgg3
  z3 := Tryz.sizeOf3
  v3 := Tryz.zeroValue3
  t4 := Tryz.underlying4
  a4 := Tryz.isAgg4
  z4 := Tryz.sizeOf4
  v4 := Tryz.zeroValue4
  t35 := Tryz.underlying155
  a35 := Tryz.isAgg155
  z35 := Tryz.sizeOf155
  v35 := Tryz.zeroValue155
  t38 := Tryz.underlying196
  a38 := Tryz.isAgg196
  z38 := Tryz.sizeOf196
  v38 := Tryz.zeroValue196 }
end Go.Proofs
namespace Go.Proofs.YthhmfeiefbnhcaaGreat.Due
open Go.RowKit Go.Proofs.YthhmfeiefbnhcaaGreat.PDueParts Go.Proofs.YthhmfeiefbnhcaaGreatW.PrintWords
set_option linter.unusedVariables false
set_option linter.unusedSimpArgs false
structure MapAt (w : World) (ob : Nat) (A : Option Addr) (c : Nat) (l : List S183) : Prop where
  blk : w.heap[ob]? = some (.cells #[.slice A l.length c] 178 (0, 0))
  rd : Kd.C k183 w A l.length l
  le : l.length ≤ c
theorem MapAt.below {w w1 : World} {ob : Nat} {A : Option Addr} {c : Nat} {l : List S183} (h : MapAt w ob A c l) (hb : Below w.heap.size w w1) : MapAt w1 ob A c l :=
  ⟨(hb.block ob (blk_lt h.blk)).trans h.blk, Kd.C_below h.rd hb, h.le⟩
theorem MapAt.lt {w : World} {ob : Nat} {A : Option Addr} {c : Nat} {l : List S183} (h : MapAt w ob A c l) : ob < w.heap.size := blk_lt h.blk
def keyAt (l : List S183) (i : Nat) : Int := (rd_T183 l i).f0
set_option maxHeartbeats 1000000 in
theorem place1_calls (W : World) (bm bk ob : Nat) (A : Option Addr) (c : Nat) (l : List S183) (k : Int) (i : Nat) (hi : i < l.length)
    (hbm : W.cell? ⟨bm, 0, none⟩ = some (.pointer (some ⟨ob, 0, none⟩))) (hbk : W.cell? ⟨bk, 0, none⟩ = some (.int .i64 k)) (hm : MapAt W ob A c l) :
    Calls Tryz.prog 137 #[.int .i64 i, .pointer (some ⟨bm, 0, none⟩), .pointer (some ⟨bk, 0, none⟩)] W fun e w' => e = .returned (.bool (decide (k ≤ keyAt l i))) ∧ ∃ n, w' = W.drewN n := by
  have hob : W.cell? ⟨ob, 0, none⟩ = some (.slice A l.length c) := blk_cell hm.blk 0
  obtain ⟨ad, hA, h0, _⟩ := at_T183 hm.rd i (by omega) (by omega)
  subst hA
  have hl : (l.length : Int) ≤ 9223372036854775807 := by have := hm.rd.2.1; omega
  have q0 : (0 : Int) ≤ (i : Int) := by omega
  have q1 : (i : Int) < (l.length : Int) := by omega
  have e1 : (rd_T183 l (i : Int)).f0 = keyAt l i := rfl
  rw [e1, Int.toNat_natCast] at h0
  clear hm hi e1
  go_enter Tryz.func137, Tryz.ntmps137
  go_wp2
  go_quiet (fail)
  go_wp2
  go_ret
  exact ⟨rfl, nq, rfl⟩
def below (l : List S183) (k : Int) : Nat := l.countP (fun p => decide (p.f0 < k))
def hasKey (l : List S183) (k : Int) : Bool := l.any (fun p => p.f0 == k)
def Rising (l : List S183) : Prop := l.Pairwise (fun p q => p.f0 < q.f0)
theorem keyAt_lt {l : List S183} (i : Nat) (h : i < l.length) : keyAt l i = (l[i]).f0 := by
  unfold keyAt rd_T183
  rw [Int.toNat_natCast, List.getD_eq_getElem?_getD, List.getElem?_eq_getElem h]; rfl
theorem Rising.le {l : List S183} (h : Rising l) {a b : Nat} (hab : a ≤ b) (hb : b < l.length) : keyAt l a ≤ keyAt l b := by
  rw [keyAt_lt a (by omega), keyAt_lt b hb]
  rcases Nat.lt_or_eq_of_le hab with h1 | h1
  · exact Int.le_of_lt (List.pairwise_iff_getElem.1 h a b (by omega) hb h1)
  · subst h1; exact Int.le_refl _
theorem below_le (l : List S183) (k : Int) : below l k ≤ l.length := List.countP_le_length
theorem below_iff {l : List S183} (h : Rising l) (k : Int) : ∀ i (hi : i < l.length), (l[i]).f0 < k ↔ i < below l k := by
  induction l with
  | nil => intro i hi; simp at hi
  | cons p l ih =>
    have hp := List.pairwise_cons.1 h
    intro i hi
    have hb : below (p :: l) k = below l k + if p.f0 < k then 1 else 0 := by
      unfold below; rw [List.countP_cons]; simp
    by_cases c : p.f0 < k
    · rw [if_pos c] at hb
      cases i with
      | zero => simp only [List.getElem_cons_zero]; exact ⟨fun _ => by omega, fun _ => c⟩
      | succ i =>
        simp only [List.getElem_cons_succ]
        have := ih hp.2 i (by simpa using hi)
        rw [this]; omega
    · have hz : below l k = 0 := by
        unfold below
        rw [List.countP_eq_zero]
        intro q hq
        have := hp.1 q hq
        simp; omega
      rw [if_neg c, hz] at hb
      cases i with
      | zero => simp only [List.getElem_cons_zero]; omega
      | succ i =>
        simp only [List.getElem_cons_succ]
        have := hp.1 _ (List.getElem_mem (by simpa using hi : i < l.length))
        omega
theorem below_count {l : List S183} (h : Rising l) (k : Int) : (List.range l.length).countP (fun i => !decide (k ≤ keyAt l i)) = below l k := by
  have hb := below_le l k
  have : ∀ n, n ≤ l.length → (List.range n).countP (fun i => !decide (k ≤ keyAt l i)) = min n (below l k) := by
    intro n
    induction n with
    | zero => intro _; simp
    | succ n ih =>
      intro hn
      rw [List.range_succ, List.countP_append, ih (by omega)]
      have hi := below_iff h k n (by omega)
      have e : keyAt l n = (l[n]).f0 := keyAt_lt n (by omega)
      simp only [List.countP_cons, List.countP_nil, e, Nat.zero_add]
      by_cases c : (l[n]).f0 < k
      · have := hi.1 c
        rw [if_pos (by simpa using c)]; omega
      · have : ¬ n < below l k := fun h1 => c (hi.2 h1)
        rw [if_neg (by simpa using c)]; omega
  rw [this _ (Nat.le_refl _)]; omega
theorem hasKey_iff {l : List S183} (h : Rising l) (k : Int) : hasKey l k = true ↔ below l k < l.length ∧ keyAt l (below l k) = k := by
  constructor
  · intro hk
    obtain ⟨p, hp, e⟩ := List.any_eq_true.1 hk
    obtain ⟨i, hi, rfl⟩ := List.getElem_of_mem hp
    have e1 : (l[i]).f0 = k := by simpa using e
    have n1 : ¬ i < below l k := fun h1 => by have := (below_iff h k i hi).2 h1; omega
    have n2 : below l k = i := by
      by_cases c : below l k < i
      · have h2 := below_iff h k (below l k) (by omega)
        have h3 : ¬ (l[below l k]).f0 < k := fun h4 => by have := h2.1 h4; omega
        have h5 := List.pairwise_iff_getElem.1 h (below l k) i (by omega) hi c
        omega
      · omega
    rw [n2]
    exact ⟨hi, by rw [keyAt_lt i hi]; exact e1⟩
  · rintro ⟨hi, e⟩
    refine List.any_eq_true.2 ⟨_, List.getElem_mem hi, ?_⟩
    rw [keyAt_lt _ hi] at e
    simpa using e
theorem grow_below (w : World) (m : Nat) (os : Array Obj) : Below w.heap.size w (Sort.grow (w.drewN m) os) := by
  refine ⟨rfl, rfl, rfl, ?_, fun k hk => ?_⟩
  · simp [Sort.grow, World.drewN]
  · simp only [Sort.grow, World.drewN]
    rw [Array.getElem?_append_left hk]
theorem grow_nil (w : World) : Sort.grow w #[] = w := by simp [Sort.grow]
theorem place_search (W : World) (bm bk ob : Nat) (A : Option Addr) (c : Nat) (l : List S183) (k : Int) (hm : MapAt W ob A c l) (hr : Rising l) (hsz : l.length < 4611686018427387904)
    (hbm : W.cell? ⟨bm, 0, none⟩ = some (.pointer (some ⟨ob, 0, none⟩))) (hbk : W.cell? ⟨bk, 0, none⟩ = some (.int .i64 k)) :
    Calls Tryz.prog 136 #[.int .i64 (l.length : Nat), .func (.func 137) #[] #[.pointer (some ⟨bm, 0, none⟩), .pointer (some ⟨bk, 0, none⟩)]] W fun e w' => e = .returned (.int .i64 (below l k : Nat)) ∧ Below W.heap.size W w' := by
  have h := Any.sort_Search Tryz.search 137 #[.pointer (some ⟨bm, 0, none⟩), .pointer (some ⟨bk, 0, none⟩)] l.length (fun i => decide (k ≤ keyAt l i)) W
    (enters_of Tryz.func137 (by kernel_rfl) rfl) hsz
    (fun m os i hi => (place1_calls _ bm bk ob A c l k i hi (pw_cell_below (grow_below W m os) hbm) (pw_cell_below (grow_below W m os) hbk) (hm.below (grow_below W m os))).mono
      fun e w' ⟨he, n, hn⟩ => ⟨he, n, #[], by rw [hn, grow_nil]⟩)
    (fun a b hab hb h => by
      have := hr.le hab hb
      simp only [decide_eq_true_eq] at h ⊢; omega)
  refine h.mono fun e w' ⟨he, q, os, hw⟩ => ⟨?_, by rw [hw]; exact grow_below W q os⟩
  rw [he, below_count hr]
set_option maxHeartbeats 1000000 in
theorem place_calls (W : World) (ob : Nat) (A : Option Addr) (c : Nat) (l : List S183) (k : Int) (hm : MapAt W ob A c l) (hr : Rising l) (hsz : l.length < 4611686018427387904) :
    Calls Tryz.prog 101 #[.pointer (some ⟨ob, 0, none⟩), .int .i64 k] W fun e w' => e = .returned (.tuple #[.int .i64 (below l k : Nat), .bool (hasKey l k)]) ∧ Below W.heap.size W w' := by
  have hob : W.cell? ⟨ob, 0, none⟩ = some (.slice A l.length c) := blk_cell hm.blk 0
  have hble := below_le l k
  by_cases hlt : below l k < l.length
  case pos =>
    have hkey : Aside0 (hasKey l k = (keyAt l (below l k) == k)) := by
      refine ⟨?_⟩
      rw [Bool.eq_iff_iff, hasKey_iff hr k, beq_iff_eq]
      exact ⟨fun h => h.2, fun h => ⟨hlt, h⟩⟩
    have HM := Aside0.mk hm
    have HR := Aside0.mk hr
    have HB := Aside0.mk (Below.refl W.heap.size W)
    clear hm hr
    go_enter Tryz.func101, Tryz.ntmps101
    go_wp2_with (first
      | ((with_reducible refine gate_dst (N := 2) rfl ?_); refine box_event ?hg (N := 2) ?hd (cs := #[.pointer (some ⟨ob, 0, none⟩)]) (t := 131) ?hr ?_; (case hd => rfl); (case hg => rfl); (case hr => first | (go_simp; done) | (go_simp; rfl)); intro bm hbm w1 Kbm hb_; replace HB := Aside0.mk (below_step HB.out hb_); have Gbm := Aside0.mk (by rw [hbm]; exact Nat.le_refl _ : W.heap.size ≤ bm); clear hbm; replace hob := pw_cell_below hb_ hob; replace HM := Aside0.mk (HM.out.below hb_); clear hb_; have cbm_0 := blk_cell Kbm 0; simp only [List.getElem?_toArray, List.getElem?_cons_zero, List.getElem?_cons_succ] at cbm_0; replace Kbm := Aside0.mk Kbm)
      | ((with_reducible refine gate_dst (N := 3) rfl ?_); refine box_event ?hg (N := 3) ?hd (cs := #[.int .i64 k]) (t := 2) ?hr ?_; (case hd => rfl); (case hg => rfl); (case hr => first | (go_simp; done) | (go_simp; rfl)); intro bk hbk w2 Kbk hb_; replace HB := Aside0.mk (below_step HB.out hb_); have Gbk := Aside0.mk (by rw [hbk]; exact Nat.le_refl _ : w1.heap.size ≤ bk); clear hbk; replace hob := pw_cell_below hb_ hob; replace HM := Aside0.mk (HM.out.below hb_); replace cbm_0 := pw_cell_below hb_ cbm_0; clear hb_; have cbk_0 := blk_cell Kbk 0; simp only [List.getElem?_toArray, List.getElem?_cons_zero, List.getElem?_cons_succ] at cbk_0; replace Kbk := Aside0.mk Kbk)
      | (go_at_call 136; refine (place_search _ bm bk ob A c l k HM.out HR.out hsz cbm_0 cbk_0).mono ?_; rintro e w3 ⟨rfl, hb3⟩; replace HB := Aside0.mk (below_step HB.out hb3); replace hob := pw_cell_below hb3 hob; replace cbm_0 := pw_cell_below hb3 cbm_0; replace cbk_0 := pw_cell_below hb3 cbk_0; replace HM := Aside0.mk (HM.out.below hb3); clear hb3 Kbm Kbk)
      | fail)
    obtain ⟨ad, hA, h0, _⟩ := at_T183 HM.out.rd (below l k : Nat) (by omega) (by omega)
    subst hA
    have hl : (l.length : Int) ≤ 9223372036854775807 := by omega
    have e1 : (rd_T183 l ((below l k : Nat) : Int)).f0 = keyAt l (below l k) := rfl
    rw [e1, Int.toNat_natCast] at h0
    clear e1
    have q0 : (0 : Int) ≤ ((below l k : Nat) : Int) := by omega
    have q1 : ((below l k : Nat) : Int) < (l.length : Int) := by omega
    go_quiet (fail)
    go_wp2
    go_ret2
    exact ⟨by rw [hkey.out]; rfl, pw_below_drewN HB.out _⟩
  case neg =>
    have hkey : Aside0 (hasKey l k = false) := by
      refine ⟨?_⟩
      cases h : hasKey l k
      · rfl
      · exact absurd ((hasKey_iff hr k).1 h).1 hlt
    have HM := Aside0.mk hm
    have HR := Aside0.mk hr
    have HB := Aside0.mk (Below.refl W.heap.size W)
    clear hm hr
    go_enter Tryz.func101, Tryz.ntmps101
    go_wp2_with (first
      | ((with_reducible refine gate_dst (N := 2) rfl ?_); refine box_event ?hg (N := 2) ?hd (cs := #[.pointer (some ⟨ob, 0, none⟩)]) (t := 131) ?hr ?_; (case hd => rfl); (case hg => rfl); (case hr => first | (go_simp; done) | (go_simp; rfl)); intro bm hbm w1 Kbm hb_; replace HB := Aside0.mk (below_step HB.out hb_); have Gbm := Aside0.mk (by rw [hbm]; exact Nat.le_refl _ : W.heap.size ≤ bm); clear hbm; replace hob := pw_cell_below hb_ hob; replace HM := Aside0.mk (HM.out.below hb_); clear hb_; have cbm_0 := blk_cell Kbm 0; simp only [List.getElem?_toArray, List.getElem?_cons_zero, List.getElem?_cons_succ] at cbm_0; replace Kbm := Aside0.mk Kbm)
      | ((with_reducible refine gate_dst (N := 3) rfl ?_); refine box_event ?hg (N := 3) ?hd (cs := #[.int .i64 k]) (t := 2) ?hr ?_; (case hd => rfl); (case hg => rfl); (case hr => first | (go_simp; done) | (go_simp; rfl)); intro bk hbk w2 Kbk hb_; replace HB := Aside0.mk (below_step HB.out hb_); have Gbk := Aside0.mk (by rw [hbk]; exact Nat.le_refl _ : w1.heap.size ≤ bk); clear hbk; replace hob := pw_cell_below hb_ hob; replace HM := Aside0.mk (HM.out.below hb_); replace cbm_0 := pw_cell_below hb_ cbm_0; clear hb_; have cbk_0 := blk_cell Kbk 0; simp only [List.getElem?_toArray, List.getElem?_cons_zero, List.getElem?_cons_succ] at cbk_0; replace Kbk := Aside0.mk Kbk)
      | (go_at_call 136; refine (place_search _ bm bk ob A c l k HM.out HR.out hsz cbm_0 cbk_0).mono ?_; rintro e w3 ⟨rfl, hb3⟩; replace HB := Aside0.mk (below_step HB.out hb3); replace hob := pw_cell_below hb3 hob; replace cbm_0 := pw_cell_below hb3 cbm_0; clear hb3 Kbm Kbk)
      | fail)
    have hd : decide (below l k < l.length) = false := by simpa using hlt
    clear hlt
    go_quiet (fail)
    go_wp2
    go_ret2
    exact ⟨by rw [hkey.out]; rfl, pw_below_drewN HB.out _⟩
end Go.Proofs.YthhmfeiefbnhcaaGreat.Due
namespace Go.Proofs.YthhmfeiefbnhcaaGreat.Due
open Go.RowKit Go.Proofs.YthhmfeiefbnhcaaGreatW.PrintWords
set_option linter.unusedVariables false
def SeqK {α : Type} (P : Program) (g : Nat) (lb : Array Value) (encs : α → Array Value) (Kp : World → World → Prop) (S Sp : List α → Prop) (N : Nat) (w : World) : Prop :=
  ∀ (l : Nat) (J Jx : List α → World → Prop) (W : World), Below w.heap.size w W → OwnFrom W.heap.size J → OwnFrom W.heap.size Jx →
    (∀ pre x W1, J pre W1 → pre.length < N → Sp (pre ++ [x]) → YieldAt Fence.wide 1 P l (encs x) W1 fun e W' =>
      (e = .returned (.bool true) ∧ J (pre ++ [x]) W' ∧ Kp W1 W' ∧ KeepsFrom W.heap.size W1 W') ∨ (e = .returned (.bool false) ∧ Jx (pre ++ [x]) W' ∧ KeepsFrom W.heap.size W1 W')) →
    J [] W →
    Calls P g (#[.func (.yield l) #[] #[]] ++ lb) W fun e W' => (∃ v, e = .returned v) ∧ ((∃ xs, S xs ∧ J xs W') ∨ (∃ pre, Sp pre ∧ Jx pre W'))
abbrev SeqJ {α : Type} (P : Program) (g : Nat) (lb : Array Value) (encs : α → Array Value) (n₀ : Nat) (S Sp : List α → Prop) (N : Nat) (w : World) : Prop := SeqK P g lb encs (Below n₀) S Sp N w
theorem keepsFrom_up {B B' : Nat} {W W' : World} (h : KeepsFrom B W W') (hB : B ≤ B') : KeepsFrom B' W W' := ⟨h.size, fun k o hk => h.same k o (by omega)⟩
theorem room_none {F : Fence} (hd : F.depth = none) (k : Nat) : F.room k := fun d h => by rw [hd] at h; cases h
theorem yieldAny {m : Nat} (m' : Nat) {P : Program} {l : Nat} {args : Array Value} {W : World} {R : Ending → World → Prop} (h : YieldAt Fence.wide m P l args W R) : YieldAt Fence.wide m' P l args W R := by
  obtain ⟨fn, tmps, assign, body, hy, hR⟩ := h
  exact ⟨fn, tmps, assign, body, hy, hR.1, fun c cs _ => hR.2 c cs (room_none rfl _)⟩
section
variable {P : Program} {w : World}
theorem rangeK {α : Type} {g : Operand} {ps : Array Tmp} {assign body : Code} {Q : Exit → Act → World → Prop} {a : Act}
    {gf : Nat} {lb : Array Value} (hg : a.eval g = .func (.func gf) #[] lb) (eg : ∀ args w, (callFunc gf args).run P w = .ok (.enter gf args) w)
    {encs : α → Array Value} {Kp : World → World → Prop} {S Sp : List α → Prop} {N : Nat} {w0 : World} (hseq : SeqK P gf lb encs Kp S Sp N w0)
    (hKt : ∀ a b c : World, Kp a b → Kp b c → Kp a c) (hKb : ∀ (W : World) (l : Nat) (o o' : Obj), w.heap.size ≤ l → W.heap[l]? = some o → o.isCells = false → Kp W (W.putObj l o')) (hb0 : Below w0.heap.size w0 w) (hps : ∀ x, (encs x).size = ps.size)
    (I : List α → World → Prop) (Ix : Code → List α → World → Prop) (hI : OwnFrom w.heap.size I) (hIx : ∀ c, OwnFrom w.heap.size (Ix c)) (h0 : I [] w) (Ax : α → Act → World → Prop) (hAx : ∀ x a', OwnFrom w.heap.size (fun (_ : Unit) W => Ax x a' W))
    (hassign : ∀ (l : Nat) (pre : List α) (x : α) (W : World) (K : Act → World → Prop), w.heap.size ≤ W.heap.size → I pre W → (∀ a' W', KeepsFrom w.heap.size W W' → Kp W W' → I pre W' → Ax x a' W' → K a' W') →
      assign.wpIn (Fence.wide.inRound l) 1 P (Exit.then K (fun _ _ _ => False)) { tmps := (ps.zip (encs x)).foldl (fun t (p, v) => t.setIfInBounds p v) a.tmps, defers := [] } W)
    (hbody : ∀ (l : Nat) (pre : List α) (x : α) (a' : Act) (W : World), w.heap.size ≤ l → l < W.heap.size → I pre W → Ax x a' W → pre.length < N → Sp (pre ++ [x]) → body.wpIn (Fence.wide.inRound l) 1 P (ownPostG w.heap.size Kp I Ix (pre ++ [x]) W) a' W)
    (hdone : ∀ (D : Nat) (xs : List α) (W : World), w.heap.size ≤ D → S xs → I xs W → W.heap[D]? = some (.deferred (some [])) → Q .normal { a with defers := { target := .collected D, args := #[] } :: a.defers } W)
    (hstop : ∀ (D : Nat) (c : Code) (pre : List α) (W : World), w.heap.size ≤ D → Sp pre → Ix c pre W → W.heap[D]? = some (.deferred (some [])) → c.wpIn Fence.wide 3 P Q { a with defers := { target := .collected D, args := #[] } :: a.defers } W) :
    (Code.rangeFunc g ps assign body).wpIn Fence.wide 3 P Q a w := by
  refine wpIn_rangeFunc ?_
  intro fn hfn
  obtain ⟨rec, hrec⟩ : ∃ rec : LoopState → Option Code → Loop, rec = fun st pe => { state := st, pending := pe, fn, tmps := a.tmps, params := ps, assign, body, defers := w.heap.size } := ⟨_, rfl⟩
  obtain ⟨W1, hW1⟩ : ∃ W1, (w.alloc (.deferred (some []))).alloc (.loop (rec .ready none)) = W1 := ⟨_, rfl⟩
  have hL1 : W1.heap[w.heap.size + 1]? = some (.loop (rec .ready none)) := by
    rw [← hW1]; have := World.alloc_heap_new (w.alloc (.deferred (some []))) (.loop (rec .ready none)); rwa [World.size_alloc] at this
  have hK1 : W1.heap[w.heap.size]? = some (.deferred (some [])) := by
    rw [← hW1]; exact (Below.heap_alloc _ _ _ (by simp)).trans (World.alloc_heap_new w _)
  have hI1 : I [] W1 := by rw [← hW1]; exact hI.alloc _ (hI.alloc _ h0)
  have hb1 : Below w0.heap.size w0 W1 := by
    rw [← hW1]; exact hb0.trans ((((Below.refl _ w).alloc (Nat.le_refl _) _).alloc (by simp) _).mono hb0.size)
  have hs1 : W1.heap.size = w.heap.size + 2 := by rw [← hW1]; simp
  refine ⟨w.heap.size + 1, [{ target := .collected w.heap.size, args := #[] }], W1, { target := .fn (.func gf) lb, args := #[.func (.yield (w.heap.size + 1)) #[] #[]] }, W1, gf,
    #[.func (.yield (w.heap.size + 1)) #[] #[]] ++ lb, W1, ?_, ?_, ?_, ?_, fun _ => by omega, ?_⟩
  · rw [← hW1, hrec]; exact run_enterLoop_outer _ _ _ _ _
  · simp only [resolve, hg]
    simp [go_sem]
  · intro f' hf'; trivial
  · simp [invoke, go_sem, eg]
  · have keepRec : ∀ {A B : World} {row : Option Nat} {k : Nat} {o : Obj}, A.grownBy B row → (∀ r, row = some r → W1.heap.size ≤ r ∧ ∃ o : Obj, A.heap[r]? = some o ∧ o.isCells = false) → k < W1.heap.size → A.heap[k]? = some o → B.heap[k]? = some o :=
      fun hg' hr hk h => (hg'.block _ (Array.getElem?_eq_some_iff.1 h).1 (fun e => by have := (hr _ e.symm).1; omega)).trans h
    have hwide : ∀ {A : World} {row : Option Nat}, (∀ r, row = some r → W1.heap.size ≤ r ∧ ∃ o : Obj, A.heap[r]? = some o ∧ o.isCells = false) → (∀ r, row = some r → w.heap.size ≤ r ∧ ∃ o : Obj, A.heap[r]? = some o ∧ o.isCells = false) :=
      fun hr r e => ⟨by have := (hr r e).1; omega, (hr r e).2⟩
    refine (callsIn_wide (n := 2)).2 ((hseq (w.heap.size + 1)
      (fun pre W => I pre W ∧ W.heap[w.heap.size + 1]? = some (.loop (rec .ready none)) ∧ W.heap[w.heap.size]? = some (.deferred (some [])))
      (fun pre W => ∃ c, Ix c pre W ∧ W.heap[w.heap.size + 1]? = some (.loop (rec .done (some c))) ∧ W.heap[w.heap.size]? = some (.deferred (some [])))
      W1 hb1
      (fun s A B row hs hg' hr => ⟨hI s A B row hs.1 hg' (hwide hr), keepRec hg' hr (by omega) hs.2.1, keepRec hg' hr (by omega) hs.2.2⟩)
      (fun s A B row hs hg' hr => by
        obtain ⟨c, hc, hl, hk⟩ := hs
        exact ⟨c, hIx c s A B row hc hg' (hwide hr), keepRec hg' hr (by omega) hl, keepRec hg' hr (by omega) hk⟩)
      ?_ ⟨hI1, hL1, hK1⟩).mono ?_)
    · rintro pre x W ⟨hi, hl, hk⟩ hlen hspx
      have hlt : w.heap.size + 1 < W.heap.size := (Array.getElem?_eq_some_iff.1 hl).1
      have hy := run_yield (P := P) (args := encs x) hl (by rw [hrec]; exact hps x)
      rw [hrec] at hy
      refine ⟨fn, _, assign, body, hy, roundIn_of_wpIn hfn (hassign _ pre x W _ (by omega) hi ?_)⟩
      clear hy
      intro a' Wa hkfa hkpa hia hax
      replace hl := hkfa.same _ _ (by omega) hl rfl
      replace hk := hkfa.same _ _ (Nat.le_refl _) hk rfl
      replace hlt : w.heap.size + 1 < Wa.heap.size := (Array.getElem?_eq_some_iff.1 hl).1
      clear hi
      obtain ⟨W2, hW2⟩ : ∃ W2, Wa.putObj (w.heap.size + 1) (.loop { rec .ready none with state := .busy }) = W2 := ⟨_, rfl⟩
      refine ⟨W2, by rw [← hW2]; exact run_beginRound hl (by rw [hrec]), ?_⟩
      have hl2 : W2.heap[w.heap.size + 1]? = some (.loop { rec .ready none with state := .busy }) := by rw [← hW2]; exact World.putObj_heap_same hlt
      have hk2 : W2.heap[w.heap.size]? = some (.deferred (some [])) := by rw [← hW2]; exact (World.putObj_heap_other (by omega)).trans hk
      have hkp2 : ∀ W3, KeepsFrom w.heap.size W2 W3 → ∀ o, KeepsFrom W1.heap.size W (W3.putObj (w.heap.size + 1) o) := fun W3 h3 o =>
        ((keepsFrom_up hkfa (by omega)).trans ((by rw [← hW2]; exact KeepsFrom.of_grownBy (grownBy_putObj' Wa _ _) (fun j e => by cases e; omega) : KeepsFrom W1.heap.size Wa W2).trans (keepsFrom_up h3 (by omega)))).trans
          (KeepsFrom.of_grownBy (grownBy_putObj' W3 _ _) (fun j e => by cases e; omega))
      have hw2 : Kp Wa W2 := by rw [← hW2]; exact hKb _ _ _ _ (by omega) hl rfl
      have hi2 : I pre W2 := by rw [← hW2]; exact hI.putObj _ hia (by omega) hl rfl
      have hax2 : Ax x a' W2 := by rw [← hW2]; exact (hAx x a').putObj (s := ()) _ hax (by omega) hl rfl
      refine wpIn_mono (hbody _ pre x a' _ (by omega) (Array.getElem?_eq_some_iff.1 hl2).1 hi2 hax2 hlen hspx) ?_
      have fin : ∀ (jump : Option Code) (W3 : World), KeepsFrom w.heap.size W2 W3 →
          (Instr.endRound (w.heap.size + 1) jump).run P W3 = .ok (.bool jump.isNone) (W3.putObj (w.heap.size + 1) (.loop (rec (if jump.isNone then .ready else .done) jump))) ∧
          W3.heap[w.heap.size + 1]? = some (.loop { rec .ready none with state := .busy }) ∧
          (W3.putObj (w.heap.size + 1) (.loop (rec (if jump.isNone then .ready else .done) jump))).heap[w.heap.size + 1]? = some (.loop (rec (if jump.isNone then .ready else .done) jump)) ∧
          (W3.putObj (w.heap.size + 1) (.loop (rec (if jump.isNone then .ready else .done) jump))).heap[w.heap.size]? = some (.deferred (some [])) := fun jump W3 hk3 => by
        have hl3 := hk3.same _ _ (by omega) hl2 rfl
        have := run_endRound (P := P) jump hl3
        rw [hrec] at this ⊢
        exact ⟨this, by rw [hrec] at hl3; exact hl3, World.putObj_heap_same (Array.getElem?_eq_some_iff.1 hl3).1, (World.putObj_heap_other (by omega)).trans (hk3.same _ _ (Nat.le_refl _) hk2 rfl)⟩
      rintro e a3 W3 hp
      cases e with
      | normal =>
        obtain ⟨hk3, hkp3, hi3⟩ := hp
        obtain ⟨hr, hl3, hl4, hk4⟩ := fin none W3 hk3
        exact ⟨_, _, hr, .inl ⟨rfl, ⟨hI.putObj _ hi3 (by omega) hl3 rfl, hl4, hk4⟩, hKt _ _ _ hkpa (hKt _ _ _ (hKt _ _ _ hw2 hkp3) (hKb _ _ _ _ (by omega) hl3 rfl)), hkp2 W3 hk3 _⟩⟩
      | ret =>
        obtain ⟨hk3, hi3⟩ := hp
        obtain ⟨hr, hl3, hl4, hk4⟩ := fin (some .ret) W3 hk3
        exact ⟨_, _, hr, .inr ⟨rfl, ⟨.ret, (hIx _).putObj _ hi3 (by omega) hl3 rfl, hl4, hk4⟩, hkp2 W3 hk3 _⟩⟩
      | exit id =>
        obtain ⟨hk3, hi3⟩ := hp
        obtain ⟨hr, hl3, hl4, hk4⟩ := fin (some (.exit id)) W3 hk3
        exact ⟨_, _, hr, .inr ⟨rfl, ⟨.exit id, (hIx _).putObj _ hi3 (by omega) hl3 rfl, hl4, hk4⟩, hkp2 W3 hk3 _⟩⟩
      | goto t =>
        obtain ⟨hk3, hi3⟩ := hp
        obtain ⟨hr, hl3, hl4, hk4⟩ := fin (some (.goto t)) W3 hk3
        exact ⟨_, _, hr, .inr ⟨rfl, ⟨.goto t, (hIx _).putObj _ hi3 (by omega) hl3 rfl, hl4, hk4⟩, hkp2 W3 hk3 _⟩⟩
      | panic ch => exact hp.elim
      | outgrown => exact hp.elim
    · rintro e W2 ⟨⟨v, rfl⟩, (⟨xs, hS, hi, hl, hk⟩ | ⟨pre, hSp, c, hi, hl, hk⟩)⟩
      · exact ⟨none, _, by have := run_endLoop (P := P) hl (by rw [hrec]; simp); rw [hrec] at this; exact this, hdone _ xs _ (Nat.le_refl _) hS (hI.putObj _ hi (by omega) hl rfl) ((World.putObj_heap_other (by omega)).trans hk)⟩
      · exact ⟨some c, _, by have := run_endLoop (P := P) hl (by rw [hrec]; simp); rw [hrec] at this; exact this, hstop _ c pre _ (Nat.le_refl _) hSp ((hIx c).putObj _ hi (by omega) hl rfl) ((World.putObj_heap_other (by omega)).trans hk)⟩
theorem rangeJ {α : Type} {g : Operand} {ps : Array Tmp} {assign body : Code} {Q : Exit → Act → World → Prop} {a : Act}
    {gf : Nat} {lb : Array Value} (hg : a.eval g = .func (.func gf) #[] lb) (eg : ∀ args w, (callFunc gf args).run P w = .ok (.enter gf args) w)
    {encs : α → Array Value} {n₀ : Nat} {S Sp : List α → Prop} {N : Nat} {w0 : World} (hseq : SeqJ P gf lb encs n₀ S Sp N w0)
    (hn0 : n₀ ≤ w.heap.size) (hb0 : Below w0.heap.size w0 w) (hps : ∀ x, (encs x).size = ps.size)
    (I : List α → World → Prop) (Ix : Code → List α → World → Prop) (hI : OwnFrom w.heap.size I) (hIx : ∀ c, OwnFrom w.heap.size (Ix c)) (h0 : I [] w) (Ax : α → Act → World → Prop) (hAx : ∀ x a', OwnFrom w.heap.size (fun (_ : Unit) W => Ax x a' W))
    (hassign : ∀ (l : Nat) (pre : List α) (x : α) (W : World) (K : Act → World → Prop), w.heap.size ≤ W.heap.size → I pre W → (∀ a' W', KeepsFrom w.heap.size W W' → Below n₀ W W' → I pre W' → Ax x a' W' → K a' W') →
      assign.wpIn (Fence.wide.inRound l) 1 P (Exit.then K (fun _ _ _ => False)) { tmps := (ps.zip (encs x)).foldl (fun t (p, v) => t.setIfInBounds p v) a.tmps, defers := [] } W)
    (hbody : ∀ (l : Nat) (pre : List α) (x : α) (a' : Act) (W : World), w.heap.size ≤ l → l < W.heap.size → I pre W → Ax x a' W → pre.length < N → body.wpIn (Fence.wide.inRound l) 1 P (ownPostG w.heap.size (Below n₀) I Ix (pre ++ [x]) W) a' W)
    (hdone : ∀ (D : Nat) (xs : List α) (W : World), w.heap.size ≤ D → S xs → I xs W → W.heap[D]? = some (.deferred (some [])) → Q .normal { a with defers := { target := .collected D, args := #[] } :: a.defers } W)
    (hstop : ∀ (D : Nat) (c : Code) (pre : List α) (W : World), w.heap.size ≤ D → Sp pre → Ix c pre W → W.heap[D]? = some (.deferred (some [])) → c.wpIn Fence.wide 3 P Q { a with defers := { target := .collected D, args := #[] } :: a.defers } W) :
    (Code.rangeFunc g ps assign body).wpIn Fence.wide 3 P Q a w :=
  rangeK hg eg hseq (fun _ _ _ h k => h.trans k) (fun W l o o' hl h _ => (Below.refl n₀ W).grown (grownBy_putObj' W l o') (by have := (Array.getElem?_eq_some_iff.1 h).1; omega) (fun k e => by cases e; omega)) hb0 hps I Ix hI hIx h0 Ax hAx hassign (fun l pre x a' W h1 h2 h3 h4 h5 _ => hbody l pre x a' W h1 h2 h3 h4 h5) hdone hstop
variable {ops : Array Oper} {rest : List Oper} {o : Oper} {a : Act} {Q : Exit → Act → World → Prop} {F : Fence} {n : Nat}
end
end Go.Proofs.YthhmfeiefbnhcaaGreat.Due
namespace Go.Proofs.YthhmfeiefbnhcaaGreat.Due
open Go.RowKit Go.Shelf Go.Proofs.YthhmfeiefbnhcaaGreat.PDueParts Go.Proofs.YthhmfeiefbnhcaaGreatW.PrintWords
set_option linter.unusedVariables false
set_option linter.unusedSimpArgs false
attribute [local go_sem] Oper.semAt_some
def encP (p : S183) : Array Value := #[.int .i64 p.f0, .agg #[.int .i64 p.f1.f0.f0, .int .i64 p.f1.f0.f1, .int .i64 p.f1.f1, .int .i64 p.f1.f2, .int .i64 p.f1.f3, .bool p.f1.f4]]
set_option maxRecDepth 100000 in
set_option maxHeartbeats 2000000 in
theorem each1_in (l : Nat) (Bs : Nat) (w0 : World) (A : Option Addr) (c : Nat) (xs : List S183) (hC : Kd.C k183 w0 A xs.length xs) (J Jx : List S183 → World → Prop) (W : World)
    (hB : Below w0.heap.size w0 W) (hJ : OwnFrom W.heap.size J)
    (hY : ∀ pre x W1, J pre W1 → pre.length < xs.length → pre ++ [x] <+: xs → YieldAt Fence.wide 1 Tryz.prog l (encP x) W1 fun e W' =>
      (e = .returned (.bool true) ∧ J (pre ++ [x]) W' ∧ Below w0.heap.size W1 W' ∧ KeepsFrom W.heap.size W1 W') ∨ (e = .returned (.bool false) ∧ Jx (pre ++ [x]) W' ∧ KeepsFrom W.heap.size W1 W'))
    (hBs : W.cell? ⟨Bs, 0, none⟩ = some (.slice A xs.length c)) (h0 : J [] W) :
    Calls Tryz.prog 171 #[.func (.yield l) #[] #[], .pointer (some ⟨Bs, 0, none⟩)] W fun e W' => (∃ v, e = .returned v) ∧
      (J xs W' ∨ (∃ k, k ≤ xs.length ∧ Jx (xs.take k) W')) := by
  have hl : (xs.length : Int) ≤ 9223372036854775807 := by have := hC.2.1; omega
  refine (callsIn_wide (n := 2)).1 (callsIn_of_wp Tryz.func171 rfl trivial ?_ rfl)
  simp only [Tryz.ntmps171, List.size_toArray, List.length_cons, List.length_nil, Nat.reduceAdd, Nat.reduceSub, Array.replicate_succ, Array.replicate_zero, List.push_toArray, List.append_toArray, List.nil_append, List.cons_append]
  have HJ := Aside0.mk hJ
  have HY := Aside0.mk hY
  have HC := Aside0.mk hC
  have HB := Aside0.mk hB
  have H0 := Aside0.mk h0
  clear hJ hY hC hB h0
  gi_wp2
  gi_loopw [7] (fun i wr => ∃ k : Nat, k ≤ xs.length ∧ i = .int .i64 k ∧ Aside0 (J (xs.take k) wr) ∧ Aside0 (Below w0.heap.size w0 wr) ∧ Aside0 (W.heap.size ≤ wr.heap.size))
    (fun i _ => xs.length - (intOf i).toNat)
  case atStart => exact ⟨0, Nat.zero_le _, rfl, ⟨by simpa using H0.out⟩, HB, ⟨Nat.le_refl _⟩⟩
  case round =>
    obtain ⟨k, hk, rfl, HJs, HBr, HS⟩ := hrel
    by_cases hlt : k < xs.length
    · obtain ⟨ad, hA, h0, h1, h2, h3, h4, h5, h6⟩ := at_T183 (Kd.C_below HC.out HBr.out) (k : Nat) (by omega) (by omega)
      subst hA
      obtain ⟨x, hx⟩ : ∃ x, rd_T183 xs (k : Nat) = x := ⟨_, rfl⟩
      have HX := Aside0.mk hx
      rw [hx, Int.toNat_natCast] at h0 h1 h2 h3 h4 h5 h6
      clear hx
      have hb1 : Below wr.heap.size wr (wr.alloc (.cells #[.int .i64 x.f0, .int .i64 x.f1.f0.f0, .int .i64 x.f1.f0.f1, .int .i64 x.f1.f1, .int .i64 x.f1.f2, .int .i64 x.f1.f3, .bool x.f1.f4] 183)) := below_alloc (Below.refl _ _) _
      have htk : xs.take k ++ [x] = xs.take (k + 1) := by
        rw [← HX.out]
        unfold rd_T183
        rw [Int.toNat_natCast, List.getD_eq_getElem?_getD, List.getElem?_eq_getElem hlt, List.take_succ_eq_append_getElem hlt]; rfl
      obtain ⟨fn, tmps, assign, body, hy, hR⟩ := yieldAny 1 (HY.out (xs.take k) x (wr.alloc (.cells #[.int .i64 x.f0, .int .i64 x.f1.f0.f0, .int .i64 x.f1.f0.f1, .int .i64 x.f1.f1, .int .i64 x.f1.f2, .int .i64 x.f1.f3, .bool x.f1.f4] 183)) (HJ.out.alloc _ HJs.out) (by rw [List.length_take]; omega) (by rw [htk]; exact List.take_prefix _ _))
      simp only [encP] at hy
      rw [htk] at hR
      have HR := Aside0.mk hR
      have Hb1 := Aside0.mk hb1
      clear hR hb1 htk
      gi_wp2
      refine HR.out.mono ?_
      rintro e W3 (⟨rfl, hJ3, hk3, _⟩ | ⟨rfl, hJx3, _⟩)
      · have hz : wr.heap.size ≤ W3.heap.size := Nat.le_trans Hb1.out.size hk3.size
        have HJ3 := Aside0.mk hJ3
        have HK3 := Aside0.mk (below_step HBr.out Hb1.out |>.trans hk3)
        have HZ := Aside0.mk hz
        clear hJ3 hk3 hz
        gi_wp2
        go_roundw
        case rel => exact ⟨k + 1, by omega, by go_num, HJ3, HK3, ⟨Nat.le_trans HS.out HZ.out⟩⟩
        case measure => simp [intOf]; omega
      · have HJ3 := Aside0.mk hJx3
        clear hJx3
        gi_wp2
        refine bodyPost_ret (results_none rfl _ _ _) rfl ?_
        exact ⟨⟨_, rfl⟩, .inr ⟨k + 1, by omega, HJ3.out⟩⟩
    · obtain rfl : k = xs.length := by omega
      gi_wp2
      go_end0
      exact ⟨⟨_, rfl⟩, .inl (by simpa using HJs.out)⟩
theorem each1_seq (Bs : Nat) (w0 w : World) (A : Option Addr) (c : Nat) (xs : List S183) (hC : Kd.C k183 w0 A xs.length xs) (hB : Below w0.heap.size w0 w) (hBs : w.cell? ⟨Bs, 0, none⟩ = some (.slice A xs.length c)) :
    SeqJ Tryz.prog 171 #[.pointer (some ⟨Bs, 0, none⟩)] encP w0.heap.size (fun ys => ys = xs) (fun pre => pre <+: xs) xs.length w := fun l J Jx W hW hJ hJx hY h0 =>
  (each1_in l Bs w0 A c xs hC J Jx W (below_step hB hW) hJ hY (pw_cell_below hW hBs) h0).mono fun e W' ⟨he, h⟩ => ⟨he, h.elim (fun h => .inl ⟨_, rfl, h⟩) (fun ⟨k, hk, h⟩ => .inr ⟨_, List.take_prefix _ _, h⟩)⟩
theorem each_calls (W : World) (A : Option Addr) (n c : Nat) :
    Calls Tryz.prog 145 #[.slice A n c] W fun e w' => ∃ b, e = .returned (.func (.func 171) #[] #[.pointer (some ⟨b, 0, none⟩)]) ∧ W.heap.size ≤ b ∧ w'.cell? ⟨b, 0, none⟩ = some (.slice A n c) ∧ Below W.heap.size W w' := by
  go_enter Tryz.func145, Tryz.ntmps145
  go_wp2
  go_ret
  exact ⟨W.heap.size, rfl, Nat.le_refl _, (blk_cell (blk_new W _) 0).trans rfl, below_alloc (Below.refl _ _) _⟩
set_option maxHeartbeats 1000000 in
theorem oall_calls (W : World) (ob : Nat) (A : Option Addr) (c : Nat) (l : List S183) (hm : MapAt W ob A c l) :
    Calls Tryz.prog 113 #[.pointer (some ⟨ob, 0, none⟩)] W fun e w' => ∃ b, e = .returned (.func (.func 171) #[] #[.pointer (some ⟨b, 0, none⟩)]) ∧ W.heap.size ≤ b ∧ w'.cell? ⟨b, 0, none⟩ = some (.slice A l.length c) ∧ Below W.heap.size W w' := by
  have hob : W.cell? ⟨ob, 0, none⟩ = some (.slice A l.length c) := blk_cell hm.blk 0
  clear hm
  go_enter Tryz.func113, Tryz.ntmps113
  go_wp2_with (go_at_call 145; refine (each_calls _ A l.length c).mono ?_; rintro e w1 ⟨b, rfl, hb, hc, hB⟩; have HC := Aside0.mk hc; have HB := Aside0.mk hB; have HG := Aside0.mk hb; clear hb hc hB)
  go_ret
  exact ⟨b, rfl, HG.out, HC.out, HB.out⟩
set_option maxHeartbeats 1000000 in
theorem orange_calls (W : World) (ob : Nat) (A : Option Addr) (c : Nat) (l : List S183) (k1 k2 : Int) (hm : MapAt W ob A c l) (hr : Rising l) (hsz : l.length < 4611686018427387904) :
    Calls Tryz.prog 139 #[.pointer (some ⟨ob, 0, none⟩), .int .i64 k1, .int .i64 k2] W fun e w' => ∃ b A' c' ys, e = .returned (.func (.func 171) #[] #[.pointer (some ⟨b, 0, none⟩)]) ∧ W.heap.size ≤ b ∧ w'.cell? ⟨b, 0, none⟩ = some (.slice A' ys.length c') ∧
      ys = (l.take (below l k2)).drop (below l k1) ∧ (∀ W0, Kd.C k183 W0 A l.length l → Kd.C k183 W0 A' ys.length ys) ∧ Below W.heap.size W w' := by
  have hob : W.cell? ⟨ob, 0, none⟩ = some (.slice A l.length c) := blk_cell hm.blk 0
  have b1 := below_le l k1
  have b2 := below_le l k2
  have HM := Aside0.mk hm
  have HS := Aside0.mk hr
  have HB := Aside0.mk (Below.refl W.heap.size W)
  by_cases hge : below l k2 ≤ below l k1
  · clear hm hr
    have hys : Aside0 ((l.take (below l k2)).drop (below l k1) = []) := ⟨List.drop_eq_nil_of_le (by rw [List.length_take]; omega)⟩
    go_enter Tryz.func139, Tryz.ntmps139
    go_wp2_with fail
    refine (place_calls _ ob _ c l k1 HM.out HS.out hsz).mono ?_
    rintro e w1 ⟨rfl, hb1⟩
    replace HB := Aside0.mk (below_step HB.out hb1); replace hob := pw_cell_below hb1 hob; replace HM := Aside0.mk (HM.out.below hb1); clear hb1
    go_wp2_with fail
    refine (place_calls _ ob _ c l k2 HM.out HS.out hsz).mono ?_
    rintro e w2 ⟨rfl, hb2⟩
    replace HB := Aside0.mk (below_step HB.out hb2); replace hob := pw_cell_below hb2 hob; replace HM := Aside0.mk (HM.out.below hb2); clear hb2
    go_wp2_with fail
    refine (each_calls _ none 0 0).mono ?_
    rintro e w3 ⟨b, rfl, hb, hc, hB⟩
    have HG := Aside0.mk (Nat.le_trans HB.out.size hb)
    have HC := Aside0.mk hc
    clear hb hc
    replace HB := Aside0.mk (below_step HB.out hB); clear hB
    go_wp2
    go_ret
    exact ⟨b, none, 0, [], rfl, HG.out, HC.out, hys.out.symm, fun _ _ => ⟨rfl, Nat.zero_le _, fun h => absurd h (Nat.not_lt_zero _)⟩, HB.out⟩
  · have hlt : below l k1 < below l k2 := by omega
    have hl : (l.length : Int) ≤ 9223372036854775807 := by omega
    have hc := hm.le
    obtain ⟨ad, hA, hcells⟩ := hm.rd.2.2 (by omega)
    have HR := Aside0.mk hm.rd
    subst hA
    clear hm hr
    have hlen : Aside0 (((l.take (below l k2)).drop (below l k1)).length = below l k2 - below l k1) := ⟨by rw [List.length_drop, List.length_take]; omega⟩
    clear hcells
    go_enter Tryz.func139, Tryz.ntmps139
    go_wp2_with fail
    refine (place_calls _ ob _ c l k1 HM.out HS.out hsz).mono ?_
    rintro e w1 ⟨rfl, hb1⟩
    replace HB := Aside0.mk (below_step HB.out hb1); replace hob := pw_cell_below hb1 hob; replace HM := Aside0.mk (HM.out.below hb1); clear hb1
    go_wp2_with fail
    refine (place_calls _ ob _ c l k2 HM.out HS.out hsz).mono ?_
    rintro e w2 ⟨rfl, hb2⟩
    replace HB := Aside0.mk (below_step HB.out hb2); replace hob := pw_cell_below hb2 hob; replace HM := Aside0.mk (HM.out.below hb2); clear hb2
    go_wp2_with fail
    refine (each_calls _ (some (ad.add (below l k1 * 7))) (below l k2 - below l k1) (c - below l k1)).mono ?_
    rintro e w3 ⟨b, rfl, hb, hc3, hB⟩
    have HG := Aside0.mk (Nat.le_trans HB.out.size hb)
    have HC := Aside0.mk hc3
    clear hb hc3
    replace HB := Aside0.mk (below_step HB.out hB); clear hB
    go_wp2
    go_ret
    have hmid : ∀ W0, Kd.C k183 W0 (some ad) l.length l → Kd.C k183 W0 (some (ad.add (below l k1 * 7))) ((l.take (below l k2)).drop (below l k1)).length ((l.take (below l k2)).drop (below l k1)) := fun W0 h0 => by
      have h := Kd.C_mid (lo := below l k1) (hi := below l k2) h0 (by omega) b2 hc
      rw [if_neg (by omega)] at h
      exact h
    exact ⟨b, some (ad.add (below l k1 * 7)), c - below l k1, _, rfl, HG.out, by rw [hlen.out]; exact HC.out, rfl, hmid, HB.out⟩
end Go.Proofs.YthhmfeiefbnhcaaGreat.Due
namespace Go.Proofs.YthhmfeiefbnhcaaGreat.Due
open Go.RowKit Go.Proofs.YthhmfeiefbnhcaaGreatW.PrintWords Go.Proofs.YthhmfeiefbnhcaaGreatW.PrintLast
set_option linter.unusedVariables false
section
variable {P : Program} {ops : Array Oper} {Q : Exit → Act → World → Prop} {l n : Nat}
theorem rowsIn_of {row : String} {args : Array Value} {w : World} {R : Value → World → Prop} (h : Rows P row args w R) : RowsIn (Fence.wide.inRound l) n P row args w R :=
  fun c cs hr => by
    obtain ⟨v, w', hR, hs⟩ := h c cs
    exact ⟨v, w', hR, stepsIn_wide.2 hs⟩
theorem operIn_of {o : Oper} {a : Act} {w : World} {K : Act → World → Prop} (hop : ∀ c, o.op ≠ .defer c) (h : Oper.wp P o a w K Q) : Oper.wpIn (Fence.wide.inRound l) n P o a w K Q := by
  refine ⟨fun f _ => trivial, ?_⟩
  rw [Oper.semAt_eq _ _ _ hop]
  unfold Oper.wp at h
  generalize (execOp a.eval o).run P w = r at *
  cases r with
  | ok x w' =>
    cases x <;> simp only [Oper.upon, Oper.uponIn] at h ⊢ <;>
      first
        | exact h
        | exact ⟨fun hd => by simp [Fence.wide] at hd, (callsIn_wide (n := n - 1)).2 h⟩
        | exact ⟨fun hd => by simp [Fence.wide] at hd, rowsIn_of h⟩
        | exact h.elim
  | halt x w' => cases x <;> simp only [Oper.upon, Oper.uponIn] at h ⊢ <;> exact h
theorem opIn_of {i : Nat} {a : Act} {w : World} {K : Act → World → Prop} (hnd : ∀ o ∈ ops, ∀ c, o.op ≠ .defer c) (hQ : ¬ LetsOut Q) (h : wpOp P ops Q i K a w) : wpOpIn (Fence.wide.inRound l) n P ops Q i K a w := by
  unfold wpOp at h
  unfold wpOpIn
  split
  · rename_i ho
    simp only [ho] at h
    exact h
  · rename_i o ho
    simp only [ho] at h
    have hm : o ∈ ops := Array.mem_of_getElem? ho
    split
    · rename_i hw
      simp only [hw, if_true] at h
      exact operIn_of (hnd o hm) (h.elim id (fun h => absurd h.2 hQ))
    · rename_i hw
      simp only [hw] at h
      exact ⟨fun f _ => trivial, h⟩
theorem anyIn_of {md : Region.Mode} (hnd : ∀ o ∈ ops, ∀ c, o.op ≠ .defer c) (hQ : ¬ LetsOut Q) : ∀ (fuel : Nat) (listed : Array Bool) (a : Act) (w : World), wpAny P md ops Q fuel listed a w → wpAnyIn (Fence.wide.inRound l) n P md ops Q fuel listed a w
  | 0, _, _, _, h => h
  | fuel + 1, listed, a, w, h => ⟨h.1, fun i hi => wpOpIn_mono (fun a w => anyIn_of hnd hQ fuel _ a w) (opIn_of hnd hQ (h.2 i hi))⟩
end
section
variable {P : Program} {ops : Array Oper} {Q : Exit → Act → World → Prop}
theorem skip_step {o : Oper} {a : Act} {W w1 : World} {Kc : Act → World → Prop} (hw : Region.wanted o (yielded ops a.tmps) = true) (hrun : (execOp a.eval o).run P W = .ok .skip w1) (h : Kc (a.put o.dst undef) w1) : if Region.wanted o (yielded ops a.tmps) = true then Oper.wp P o a W Kc Q else Kc (a.put o.dst undef) W := by
  rw [if_pos hw]
  unfold Oper.wp
  rw [hrun]
  exact h
end
section
variable {P : Program} {ops : Array Oper} {Q : Exit → Act → World → Prop} {S : World → Prop} {ds : List Nat}
theorem startIn_ {m id n l : Nat} {a : Act} {w : World} (bs : Array Bool) (hm : P.follows .mixedOrders = true) (hn : ops.size = n) (hl : Array.replicate n false = bs) (hnd : (ops.all fun o => match o.op with | .defer _ => false | _ => true) = true) (hQ : ¬ LetsOut Q) (hS : S w.drew)
    (h : S w.drew → wpAnyLast P .any ops Q S ds n bs a w.drew) : (Code.region id ops true).wpIn (Fence.wide.inRound l) m P Q a w := by
  subst hn
  subst hl
  refine wpIn_region_any hm (anyIn_of (fun o ho c e => ?_) hQ _ _ _ _ (wpAny_of_last _ _ _ _ (h hS)))
  obtain ⟨i, hi, rfl⟩ := Array.getElem_of_mem ho
  have := Array.all_eq_true.1 hnd i hi
  rw [e] at this
  cases this
end
end Go.Proofs.YthhmfeiefbnhcaaGreat.Due
namespace Go.Proofs.YthhmfeiefbnhcaaGreat.Due
open Go.RowKit Go.Shelf Go.Proofs.YthhmfeiefbnhcaaGreat.PDueParts Go.Proofs.YthhmfeiefbnhcaaGreatW.PrintWords Go.Proofs.YthhmfeiefbnhcaaGreatW.PrintLast
set_option linter.unusedVariables false
set_option linter.unusedSimpArgs false
attribute [local go_sem] Oper.semAt_some
structure MapOwn (w : World) (base ob : Nat) (l : List S183) : Prop where
  own : ∃ v, w.heap[ob]? = some (.cells #[v] 178 (0, 0)) ∧ Kd.R k183 183 w base (fun _ => True) v l
  ge : base ≤ ob
theorem MapOwn.at_ {w : World} {base ob : Nat} {l : List S183} (h : MapOwn w base ob l) : ∃ A c, MapAt w ob A c l := by
  obtain ⟨v, hb, hr⟩ := h.own
  obtain ⟨A, c, rfl, hl, hc⟩ := Kd.R_reads hr
  exact ⟨A, c, hb, hc, hl⟩
theorem MapOwn.below {w w1 : World} {base ob : Nat} {l : List S183} (h : MapOwn w base ob l) (hb : Below w.heap.size w w1) : MapOwn w1 base ob l := by
  obtain ⟨v, hv, hr⟩ := h.own
  exact ⟨⟨v, (hb.block ob (blk_lt hv)).trans hv, Kd.R_below hr hb⟩, h.ge⟩
theorem MapOwn.lower {w : World} {base base' ob : Nat} {l : List S183} (h : MapOwn w base ob l) (hb : base' ≤ base) : MapOwn w base' ob l := by
  obtain ⟨v, hv, hr⟩ := h.own
  exact ⟨⟨v, hv, Kd.R_lower hr hb⟩, Nat.le_trans hb h.ge⟩
theorem R_turn {α : Type} {d : Kd α} {e : Nat} {W W' : World} {base : Nat} {ok : Nat → Prop} {v : Value} {xs : List α} {row : Option Nat} (h : d.R e W base ok v xs) (hg : W.grownBy W' row) (hr : ∀ r, row = some r → ∃ o : Obj, W.heap[r]? = some o ∧ o.isCells = false) : d.R e W' base ok v xs :=
  Kd.R_mono (Kd.R_move (Kd.R_bound h) (fun k hk => hg.block k hk.2.2.1 (fun e => by
    obtain ⟨o, ho, hc⟩ := hr k e.symm
    obtain ⟨q, _, cells, hq⟩ := hk.2.2.2
    rw [hq] at ho
    cases ho
    cases hc))) (fun _ hk => hk.1)
theorem blk_turn {W W' : World} {row : Option Nat} {b : Nat} {cs : Array Value} {t : TypeId} {fr : Nat × Nat} (h : W.heap[b]? = some (.cells cs t fr)) (hg : W.grownBy W' row) (hr : ∀ r, row = some r → ∃ o : Obj, W.heap[r]? = some o ∧ o.isCells = false) : W'.heap[b]? = some (.cells cs t fr) :=
  (hg.block b (blk_lt h) (fun e => by
    obtain ⟨o, ho, hc⟩ := hr b e.symm
    rw [h] at ho
    cases ho
    cases hc)).trans h
theorem MapOwn.turn {W W' : World} {base ob : Nat} {l : List S183} {row : Option Nat} (h : MapOwn W base ob l) (hg : W.grownBy W' row) (hr : ∀ r, row = some r → ∃ o : Obj, W.heap[r]? = some o ∧ o.isCells = false) : MapOwn W' base ob l := by
  obtain ⟨v, hv, hR⟩ := h.own
  exact ⟨⟨v, blk_turn hv hg hr, R_turn hR hg hr⟩, h.ge⟩
theorem info183 : (Tryz.prog.info? 183).map (fun i => (i.zero, i.size, i.bytes)) = some (some (.agg #[(.int .i64 0), (.int .i64 0), (.int .i64 0), (.int .i64 0), (.int .i64 0), (.int .i64 0), (.bool false)]), 7, 56) := by kernel_rfl
theorem keeps_grown {W W' : World} {row : Option Nat} (hg : W.grownBy W' row) (hr : ∀ k, row = some k → ∃ cs t fr, W.heap[k]? = some (.cells cs t fr)) : KeepsOthers W W' :=
  ⟨hg.size, fun k o ho hc => (hg.block k (Array.getElem?_eq_some_iff.1 ho).1 (fun e => by
    obtain ⟨cs, t, fr, h⟩ := hr k e.symm
    rw [h] at ho
    cases ho
    cases hc)).trans ho⟩
theorem hg_below {W W' : World} {B : Nat} {row : Option Nat} (hg : W.grownBy W' row) (hB : B ≤ W.heap.size) (hr : ∀ k, row = some k → B ≤ k) : Below B W W' := (Below.refl B W).grown hg hB hr
theorem MapOwn.mk_set {w : World} {base ob : Nat} {l : List S183} {v0 v : Value} (hb : w.heap[ob]? = some (.cells #[v0] 178 (0, 0))) (hr : Kd.R k183 183 w base (fun _ => True) v l) (hg : base ≤ ob) : MapOwn (w.setCell ⟨ob, 0, none⟩ v) base ob l :=
  ⟨⟨v, by have := blk_set hb 0 v; simpa using this, Kd.R_set hr hb (by decide) 0 v⟩, hg⟩
theorem onew_calls (W : World) : Calls Tryz.prog 62 #[] W fun e w' => ∃ b, e = .returned (.pointer (some ⟨b, 0, none⟩)) ∧ MapOwn w' W.heap.size b [] ∧ Below W.heap.size W w' := by
  go_enter Tryz.func62, Tryz.ntmps62
  go_wp2
  go_ret
  exact ⟨W.heap.size, rfl, ⟨⟨_, blk_new W _, Kd.R_nil _ _ _ _ _⟩, Nat.le_refl _⟩, below_alloc (Below.refl _ _) _⟩
set_option maxRecDepth 100000 in
set_option maxHeartbeats 2000000 in
theorem ocopy_calls (W : World) (ob : Nat) (A : Option Addr) (c : Nat) (l : List S183) (hm : MapAt W ob A c l) (hsz : l.length ≤ 1000000) :
    Calls Tryz.prog 100 #[.pointer (some ⟨ob, 0, none⟩)] W fun e w' => ∃ b, e = .returned (.pointer (some ⟨b, 0, none⟩)) ∧ MapOwn w' W.heap.size b l ∧ Below W.heap.size W w' := by
  refine (callsIn_wide (n := 3)).1 (callsIn_of_wp_marks Tryz.func100 rfl trivial ?_ rfl)
  simp only [Tryz.ntmps100, List.size_toArray, List.length_cons, List.length_nil, Nat.reduceAdd, Nat.reduceSub, Array.replicate_succ, Array.replicate_zero, List.push_toArray, List.append_toArray, List.nil_append, List.cons_append]
  have HM := Aside0.mk hm
  have HCW := Aside0.mk hm.rd
  clear hm
  gi_wp2_with fail
  refine ⟨trivial, (callsIn_wide (n := 2)).2 ((onew_calls _).mono ?_)⟩
  rintro e w1 ⟨b2, rfl, hM2, hB1⟩
  have HM2 := Aside0.mk hM2
  have HM1 := Aside0.mk (HM.out.below hB1)
  have HB := Aside0.mk hB1
  clear hM2 hB1 HM
  gi_wp2_with fail
  refine ⟨trivial, (callsIn_wide (n := 2)).2 ((oall_calls _ ob A c l (HM1.out.below (below_alloc (Below.refl _ _) _))).mono ?_)⟩
  rintro e w3 ⟨bs, rfl, hbs, hcs, hB3⟩
  obtain ⟨w2, hw2⟩ : ∃ w2, w1.alloc (.cells #[.pointer (some ⟨b2, 0, none⟩)] 131) = w2 := ⟨_, rfl⟩
  have hb2 : w2.heap[w1.heap.size]? = some (.cells #[.pointer (some ⟨b2, 0, none⟩)] 131 (0, 0)) := by rw [← hw2]; exact blk_new w1 _
  have hB2 : Below w1.heap.size w1 w2 := by rw [← hw2]; exact below_alloc (Below.refl _ _) _
  rw [hw2] at hB3 hbs
  have K2 := Aside0.mk ((hB3.block _ (blk_lt hb2)).trans hb2)
  have HM3 := Aside0.mk ((HM2.out.below hB2).below hB3)
  have HC := Aside0.mk hcs
  have G1 := Aside0.mk HB.out.size
  have HB3 := Aside0.mk (below_step (below_step HB.out hB2) hB3)
  have GB := Aside0.mk (Nat.le_trans hB2.size hB3.size)
  have HA := Aside0.mk HM1.out
  clear hbs hcs hB3 hb2 hB2 HM2 HB HM1 hw2 w2
  obtain ⟨bx, hbx⟩ : ∃ bx, w1.heap.size = bx := ⟨_, rfl⟩
  rw [hbx] at K2 GB G1
  rw [hbx]
  gi_wp2_with fail
  refine rangeJ (gf := 171) (lb := #[.pointer (some ⟨bs, 0, none⟩)]) rfl (enters_of Tryz.func171 (by kernel_rfl) rfl) (each1_seq bs W w3 A c l HCW.out HB3.out HC.out) HB3.out.size (Below.refl _ _) (fun _ => rfl)
    (fun pre W' => (MapOwn W' W.heap.size b2 pre ∧ W'.heap[bx]? = some (.cells #[.pointer (some ⟨b2, 0, none⟩)] 131 (0, 0))) ∧ Below W.heap.size W W') (fun _ _ _ => False) ?hI (fun _ _ _ _ _ hs _ _ => hs) ⟨⟨HM3.out, K2.out⟩, HB3.out⟩
    (fun x a' W' => ∃ b5, W'.heap[b5]? = some (.cells #[.int .i64 x.f1.f0.f0, .int .i64 x.f1.f0.f1, .int .i64 x.f1.f1, .int .i64 x.f1.f2, .int .i64 x.f1.f3, .bool x.f1.f4] 43 (0, 0)) ∧
      a' = { tmps := #[.pointer (some ⟨ob, 0, none⟩), undef, .pointer none, .pointer (some ⟨bx, 0, none⟩), .int .i64 x.f0, .pointer (some ⟨b5, 0, none⟩), .pointer (some ⟨ob, 0, none⟩), .bool false, .pointer (some ⟨b2, 0, none⟩), .pointer (some ⟨ob, 0, none⟩), .func (.func 171) #[] #[.pointer (some ⟨bs, 0, none⟩)], .int .i64 x.f0, .agg #[.int .i64 x.f1.f0.f0, .int .i64 x.f1.f0.f1, .int .i64 x.f1.f1, .int .i64 x.f1.f2, .int .i64 x.f1.f3, .bool x.f1.f4], undef, undef, undef, undef, undef, undef, undef, undef, undef, undef, undef, undef, undef], defers := [] }) ?hAx ?assign ?body ?done ?stop
  case hI =>
    rintro pre X Y row ⟨⟨h1, h2⟩, h3⟩ hg hr
    exact ⟨⟨h1.turn hg (fun r e => (hr r e).2), blk_turn h2 hg (fun r e => (hr r e).2)⟩, h3.grown hg h3.size (fun k e => by have := (hr k e).1; have := HB3.out.size; omega)⟩
  case hAx =>
    rintro x a' _ X Y row ⟨b5, h5, rfl⟩ hg hr
    exact ⟨b5, blk_turn h5 hg (fun r e => (hr r e).2), rfl⟩
  case assign =>
    rintro q pre x W5 K hsz ⟨⟨hM, hb⟩, hB⟩ hK
    have HK := Aside0.mk hK
    have H1 := Aside0.mk hM
    have H2 := Aside0.mk hb
    have H3 := Aside0.mk hB
    clear hK hM hb hB
    simp only [encP]
    gi_wp2
    have hal : Below W5.heap.size W5 (W5.alloc (.cells #[.int .i64 x.f1.f0.f0, .int .i64 x.f1.f0.f1, .int .i64 x.f1.f1, .int .i64 x.f1.f2, .int .i64 x.f1.f3, .bool x.f1.f4] 43)) := below_alloc (Below.refl _ _) _
    exact HK.out _ _ ((KeepsOthers.alloc _ _).from _) (hal.mono H3.out.size) ⟨⟨H1.out.below hal, (hal.block _ (blk_lt H2.out)).trans H2.out⟩, below_step H3.out hal⟩ ⟨W5.heap.size, blk_new W5 _, rfl⟩
  case body =>
    rintro q pre x a' W5 hl hlt ⟨⟨hM, hb⟩, hB⟩ ⟨b5, h5, rfl⟩ hN
    obtain ⟨v, hv, hR⟩ := hM.own
    have HR := Aside0.mk hR
    have KX := Aside0.mk hb
    have KM := Aside0.mk hv
    have K5 := Aside0.mk h5
    have HB := Aside0.mk hB
    have G := Aside0.mk hM.ge
    have GN := Aside0.mk hN
    clear hM hR hb hv h5 hB hN hl hlt
    gi_wp2_with fail
    have KP := Aside0.mk ((KeepsOthers.refl W5).trans ⟨Nat.le_refl _, fun _ _ h _ => h⟩ : KeepsOthers W5 W5.drew)
    have BP := Aside0.mk ((Below.refl W.heap.size W5).drew)
    have hbr := (Below.refl W5.heap.size W5).drew
    have HR6 := Aside0.mk (Kd.R_below HR.out hbr)
    clear HR hbr
    have hbd := (Below.refl W5.heap.size W5).drew
    replace HB := Aside0.mk (below_step HB.out hbd); replace KX := Aside0.mk ((hbd.block _ (blk_lt KX.out)).trans KX.out); replace KM := Aside0.mk ((hbd.block _ (blk_lt KM.out)).trans KM.out); replace K5 := Aside0.mk ((hbd.block _ (blk_lt K5.out)).trans K5.out); clear hbd
    refine startIn_ (n := 13) (S := fun w' => w'.cell? ⟨bx, 0, none⟩ = some (.pointer (some ⟨b2, 0, none⟩)) ∧ w'.cell? ⟨b2, 0, none⟩ = some v ∧ w'.cell? ⟨b5, 0, none⟩ = some (.int .i64 x.f1.f0.f0) ∧ w'.cell? ⟨b5, 1, none⟩ = some (.int .i64 x.f1.f0.f1) ∧ w'.cell? ⟨b5, 2, none⟩ = some (.int .i64 x.f1.f1) ∧ w'.cell? ⟨b5, 3, none⟩ = some (.int .i64 x.f1.f2) ∧ w'.cell? ⟨b5, 4, none⟩ = some (.int .i64 x.f1.f3) ∧ w'.cell? ⟨b5, 5, none⟩ = some (.bool x.f1.f4)) (ds := [12]) #[false, false, false, false, false, false, false, false, false, false, false, false, false] (by kernel_rfl) rfl rfl (by kernel_rfl) (fun ⟨_, _, h⟩ => h) ⟨(blk_cell KX.out 0).trans rfl, (blk_cell KM.out 0).trans rfl, (blk_cell K5.out 0).trans rfl, (blk_cell K5.out 1).trans rfl, (blk_cell K5.out 2).trans rfl, (blk_cell K5.out 3).trans rfl, (blk_cell K5.out 4).trans rfl, (blk_cell K5.out 5).trans rfl⟩ ?_
    intro hHeld
    generalize hw_ : W5.drew = w6 at *
    clear hw_
    refine take_ (i := 0) (N := some 13) (v := ?_) (a' := ?_) #[true, false, false, false, false, false, false, false, false, false, false, false, false] rfl rfl (by kernel_rfl) (fun _ _ _ h => h) (Or.inl ⟨by rfl, ?_⟩) hHeld ?_ ?_
    rotate_left
    · rintro w' ⟨s0, s1, s2, s3, s4, s5, s6, s7⟩
      go_simp
      with_reducible rfl
    rotate_left
    · simp only [Act.put, List.setIfInBounds_toArray, List.set_cons_zero, List.set_cons_succ, i64_w, i32_w]
      rfl
    refine take_ (i := 1) (N := some 14) (v := ?_) (a' := ?_) #[true, true, false, false, false, false, false, false, false, false, false, false, false] rfl rfl (by kernel_rfl) (fun _ _ _ h => h) (Or.inl ⟨by rfl, ?_⟩) hHeld ?_ ?_
    rotate_left
    · rintro w' ⟨s0, s1, s2, s3, s4, s5, s6, s7⟩
      go_simp
      with_reducible rfl
    rotate_left
    · simp only [Act.put, List.setIfInBounds_toArray, List.set_cons_zero, List.set_cons_succ, i64_w, i32_w]
      rfl
    refine pure_ (i := 2) (N := some 15) (v := ?_) (a' := ?_) #[true, true, true, false, false, false, false, false, false, false, false, false, false] rfl rfl (by kernel_rfl) (fun _ _ _ h => h) (Or.inl ⟨by rfl, ?_⟩) ?_ ?_
    rotate_left
    · intro w'
      go_simp
      with_reducible rfl
    rotate_left
    · simp only [Act.put, List.setIfInBounds_toArray, List.set_cons_zero, List.set_cons_succ, i64_w, i32_w]
      rfl
    refine pure_ (i := 3) (N := some 16) (v := ?_) (a' := ?_) #[true, true, true, true, false, false, false, false, false, false, false, false, false] rfl rfl (by kernel_rfl) (fun _ _ _ h => h) (Or.inl ⟨by rfl, ?_⟩) ?_ ?_
    rotate_left
    · intro w'
      go_simp
      with_reducible rfl
    rotate_left
    · simp only [Act.put, List.setIfInBounds_toArray, List.set_cons_zero, List.set_cons_succ, i64_w, i32_w]
      rfl
    refine take_ (i := 4) (N := some 17) (v := ?_) (a' := ?_) #[true, true, true, true, true, false, false, false, false, false, false, false, false] rfl rfl (by kernel_rfl) (fun _ _ _ h => h) (Or.inl ⟨by rfl, ?_⟩) hHeld ?_ ?_
    rotate_left
    · rintro w' ⟨s0, s1, s2, s3, s4, s5, s6, s7⟩
      go_simp
      with_reducible rfl
    rotate_left
    · simp only [Act.put, List.setIfInBounds_toArray, List.set_cons_zero, List.set_cons_succ, i64_w, i32_w]
      rfl
    refine pure_ (i := 5) (N := some 18) (v := ?_) (a' := ?_) #[true, true, true, true, true, true, false, false, false, false, false, false, false] rfl rfl (by kernel_rfl) (fun _ _ _ h => h) (Or.inl ⟨by rfl, ?_⟩) ?_ ?_
    rotate_left
    · intro w'
      go_simp
      with_reducible rfl
    rotate_left
    · simp only [Act.put, List.setIfInBounds_toArray, List.set_cons_zero, List.set_cons_succ, i64_w, i32_w]
      rfl
    refine take_ (i := 6) (N := some 19) (v := ?_) (a' := ?_) #[true, true, true, true, true, true, true, false, false, false, false, false, false] rfl rfl (by kernel_rfl) (fun _ _ _ h => h) (Or.inl ⟨by rfl, ?_⟩) hHeld ?_ ?_
    rotate_left
    · rintro w' ⟨s0, s1, s2, s3, s4, s5, s6, s7⟩
      go_simp
      with_reducible rfl
    rotate_left
    · simp only [Act.put, List.setIfInBounds_toArray, List.set_cons_zero, List.set_cons_succ, i64_w, i32_w]
      rfl
    refine pure_ (i := 7) (N := some 20) (v := ?_) (a' := ?_) #[true, true, true, true, true, true, true, true, false, false, false, false, false] rfl rfl (by kernel_rfl) (fun _ _ _ h => h) (Or.inl ⟨by rfl, ?_⟩) ?_ ?_
    rotate_left
    · intro w'
      go_simp
      with_reducible rfl
    rotate_left
    · simp only [Act.put, List.setIfInBounds_toArray, List.set_cons_zero, List.set_cons_succ, i64_w, i32_w]
      rfl
    refine one_ (i := 8) (N := some 21) #[true, true, true, true, true, true, true, true, true, false, false, false, false] rfl rfl (by kernel_rfl) (by decide) (fun K hK => ?_)
    refine event_step (v := .slice (some ⟨w6.heap.size, 0, none⟩) 1 1) (w1 := w6.alloc (.cells #[.int .i64 x.f0, .int .i64 x.f1.f0.f0, .int .i64 x.f1.f0.f1, .int .i64 x.f1.f1, .int .i64 x.f1.f2, .int .i64 x.f1.f3, .bool x.f1.f4] 183)) (by rfl) (by go_simp) ?_
    have hal : Below w6.heap.size w6 (w6.alloc (.cells #[.int .i64 x.f0, .int .i64 x.f1.f0.f0, .int .i64 x.f1.f0.f1, .int .i64 x.f1.f1, .int .i64 x.f1.f2, .int .i64 x.f1.f3, .bool x.f1.f4] 183)) := below_alloc (Below.refl _ _) _
    refine hK.out _ _ ?_ (fun hHeld => ?_)
    · obtain ⟨s0, s1, s2, s3, s4, s5, s6, s7⟩ := hHeld
      exact ⟨pw_cell_below hal s0, pw_cell_below hal s1, pw_cell_below hal s2, pw_cell_below hal s3, pw_cell_below hal s4, pw_cell_below hal s5, pw_cell_below hal s6, pw_cell_below hal s7⟩
    refine one_ (i := 9) (N := some 22) #[true, true, true, true, true, true, true, true, true, true, false, false, false] rfl rfl (by kernel_rfl) (by decide) (fun K hK => ?_)
    refine Kd.R_append_step k183 (w0 := W) W.heap.size (by rfl) (.tmp 17) (.tmp 21) 176 183 (.agg #[(.int .i64 0), (.int .i64 0), (.int .i64 0), (.int .i64 0), (.int .i64 0), (.int .i64 0), (.bool false)]) 56 rfl Tryz.underlying176 info183 rfl (by decide) (by omega) v pre x [.int .i64 x.f0, .int .i64 x.f1.f0.f0, .int .i64 x.f1.f0.f1, .int .i64 x.f1.f1, .int .i64 x.f1.f2, .int .i64 x.f1.f3, .bool x.f1.f4] (fun _ => True) (fun _ => False) rfl rfl (k183_mkM _ _ _ x) (fun _ h => h.elim) (fun _ _ => trivial) HR6.out HB.out HB.out.size ?_ ?_
    · have := GN.out; omega
    intro v1 w7 hR1 hB1 hg1 _
    have KX7 := blk_grown KX.out hg1 (Kd.R_ne HR6.out KX.out (by decide))
    have KM7 := blk_grown KM.out hg1 (Kd.R_ne HR6.out KM.out (by decide))
    have K57 := blk_grown K5.out hg1 (Kd.R_ne HR6.out K5.out (by decide))
    have KO7 := Aside0.mk (KP.out.trans (keeps_grown hg1 (fun k hk => by obtain ⟨_, ho⟩ := Kd.R_own HR6.out; obtain ⟨cells, hc⟩ := own_typed ho k hk; exact ⟨_, _, _, hc⟩)))
    have HR7 := Aside0.mk hR1
    have HB7 := Aside0.mk hB1
    have B57 := Aside0.mk (BP.out.trans (hg_below hg1 HB.out.size (fun k hk => by obtain ⟨_, ho⟩ := Kd.R_own HR6.out; exact own_base ho k hk)))
    clear hR1 hB1 hg1 hHeld
    refine hK.out _ _ ⟨(blk_cell KX7 0).trans rfl, (blk_cell KM7 0).trans rfl, (blk_cell K57 0).trans rfl, (blk_cell K57 1).trans rfl, (blk_cell K57 2).trans rfl, (blk_cell K57 3).trans rfl, (blk_cell K57 4).trans rfl, (blk_cell K57 5).trans rfl⟩ (fun hHeld => ?_)
    clear hHeld
    refine pure_ (i := 10) (N := some 23) (v := ?_) (a' := ?_) #[true, true, true, true, true, true, true, true, true, true, true, false, false] rfl rfl (by kernel_rfl) (fun _ _ _ h => h) (Or.inl ⟨by rfl, ?_⟩) ?_ ?_
    rotate_left
    · intro w'
      go_simp
      with_reducible rfl
    rotate_left
    · simp only [Act.put, List.setIfInBounds_toArray, List.set_cons_zero, List.set_cons_succ, i64_w, i32_w]
      rfl
    refine pure_ (i := 11) (N := some 24) (v := ?_) (a' := ?_) #[true, true, true, true, true, true, true, true, true, true, true, true, false] rfl rfl (by kernel_rfl) (fun _ _ _ h => h) (Or.inl ⟨by rfl, ?_⟩) ?_ ?_
    rotate_left
    · intro w'
      go_simp
      with_reducible rfl
    rotate_left
    · simp only [Act.put, List.setIfInBounds_toArray, List.set_cons_zero, List.set_cons_succ, i64_w, i32_w]
      rfl
    refine last_ (i := 12) (N := none) #[true, true, true, true, true, true, true, true, true, true, true, true, true] rfl rfl (by kernel_rfl) (by decide) (fun K hK => ?_)
    have hc7 : w7.cell? ⟨b2, 0, none⟩ = some v := (blk_cell KM7 0).trans rfl
    have hf7 : w7.frozen? ⟨b2, 0, none⟩ = false := blk_frozen KM7 0
    have KX8 := Aside0.mk KX7
    have KM8 := Aside0.mk KM7
    clear KX7 KM7 K57
    obtain ⟨A1, c1, hv1⟩ := Kd.R_slice HR7.out
    subst hv1
    refine skip_step (w1 := w7.setCell ⟨b2, 0, none⟩ (.slice A1 (pre ++ [x]).length c1)) (by rfl) (by go_simp) ?_
    refine hK.out _ _ ?_
    refine done_ (by kernel_rfl) ?_
    have hne : bx ≠ b2 := blk_ne KX8.out KM8.out (by decide)
    exact ⟨(KO7.out.trans (KeepsOthers.setCell _ _ _)).from _, B57.out.setCell (p := ⟨b2, 0, none⟩) G.out _, ⟨MapOwn.mk_set KM8.out HR7.out G.out, blk_far KX8.out (p := ⟨b2, 0, none⟩) hne _⟩, HB7.out.setCell (p := ⟨b2, 0, none⟩) G.out _⟩
  case done =>
    rintro D ys W9 hD rfl ⟨⟨hM, hb⟩, hB⟩ hK
    have H1 := Aside0.mk hM
    have H3 := Aside0.mk hB
    have H4 := Aside0.mk (Nat.le_trans HB3.out.size hD)
    have hcx : W9.cell? ⟨bx, 0, none⟩ = some (.pointer (some ⟨b2, 0, none⟩)) := (blk_cell hb 0).trans rfl
    have H5 := Aside0.mk hK
    clear hM hb hB hK hD
    gi_wp2
    refine ⟨by simp, .inl ⟨_, _, rfl, run_takeDeferred H5.out, ?_⟩⟩
    exact ⟨_, results_tmp rfl _ _ _, b2, rfl, H1.out.turn (grownBy_putObj' _ D _) (fun r e => by cases e; exact ⟨_, H5.out, rfl⟩), H3.out.grown (grownBy_putObj' _ D _) H3.out.size (fun k e => by cases e; exact H4.out)⟩
  case stop =>
    rintro D c' pre W9 _ _ h _
    exact h.elim
end Go.Proofs.YthhmfeiefbnhcaaGreat.Due
namespace Go.Proofs.YthhmfeiefbnhcaaGreat.Due
open Go.RowKit Go.Proofs.YthhmfeiefbnhcaaGreat.PDueParts Go.Proofs.YthhmfeiefbnhcaaGreatW.PrintWords
set_option linter.unusedVariables false
set_option linter.unusedSimpArgs false
def cellsP (p : S183) : List Value := [.int .i64 p.f0, .int .i64 p.f1.f0.f0, .int .i64 p.f1.f0.f1, .int .i64 p.f1.f1, .int .i64 p.f1.f2, .int .i64 p.f1.f3, .bool p.f1.f4]
def flat (l : List S183) : List Value := l.flatMap cellsP
theorem cellsP_length (p : S183) : (cellsP p).length = 7 := rfl
theorem flat_length (l : List S183) : (flat l).length = l.length * 7 := by
  induction l with
  | nil => rfl
  | cons p l ih => simp only [flat, List.flatMap_cons, List.length_append, cellsP_length, List.length_cons] at *; omega
theorem flat_append (a b : List S183) : flat (a ++ b) = flat a ++ flat b := by simp [flat]
theorem flat_take (l : List S183) : ∀ n, flat (l.take n) = (flat l).take (n * 7) := by
  induction l with
  | nil => intro n; simp [flat]
  | cons p l ih =>
    intro n
    cases n with
    | zero => simp [flat]
    | succ n =>
      have e : (n + 1) * 7 = (cellsP p).length + n * 7 := by rw [cellsP_length]; omega
      simp only [flat, List.take_succ_cons, List.flatMap_cons] at *
      rw [e, List.take_length_add_append, ih n]
theorem flat_drop (l : List S183) : ∀ n, flat (l.drop n) = (flat l).drop (n * 7) := by
  induction l with
  | nil => intro n; simp [flat]
  | cons p l ih =>
    intro n
    cases n with
    | zero => simp [flat]
    | succ n =>
      have e : (n + 1) * 7 = (cellsP p).length + n * 7 := by rw [cellsP_length]; omega
      simp only [flat, List.drop_succ_cons, List.flatMap_cons] at *
      rw [e, List.drop_length_add_append, ih n]
theorem flat_one (l : List S183) : ∀ u ∈ flat l, u.oneCell' = true := by
  intro u hu
  obtain ⟨p, _, h⟩ := List.mem_flatMap.1 hu
  simp only [cellsP, List.mem_cons, List.not_mem_nil, or_false] at h
  rcases h with rfl | rfl | rfl | rfl | rfl | rfl | rfl <;> rfl
theorem flat_get (l : List S183) (i : Nat) (hi : i < l.length) : ((flat l).drop (i * 7)).take 7 = cellsP l[i] := by
  have h : flat (l.drop i) = cellsP l[i] ++ flat (l.drop (i + 1)) := by
    unfold flat
    conv => lhs; rw [List.drop_eq_getElem_cons hi, List.flatMap_cons]
  rw [← flat_drop, h]
  exact List.take_left (l₁ := cellsP l[i])
theorem flat_of_reps : ∀ (l : List S183) (cs : List Value), cs.length = l.length * 7 → (∀ j p, l[j]? = some p → (cs.drop (j * 7)).take 7 = cellsP p) → cs = flat l
  | [], cs, h, _ => by
    rw [List.length_nil, Nat.zero_mul] at h
    rw [List.eq_nil_of_length_eq_zero h]; rfl
  | p :: l, cs, h, hc => by
    have h0 : cs.take 7 = cellsP p := by have := hc 0 p rfl; simpa using this
    have h1 : cs.drop 7 = flat l := flat_of_reps l (cs.drop 7) (by rw [List.length_drop, h, List.length_cons]; omega) (fun j q hq => by
      have := hc (j + 1) q (by simpa using hq)
      rw [List.drop_drop, show 7 + j * 7 = (j + 1) * 7 by omega]
      exact this)
    conv => lhs; rw [← List.take_append_drop 7 cs]
    rw [h0, h1]; rfl
theorem flat_of_R {w : World} {base : Nat} {ok : Nat → Prop} {v : Value} {l : List S183} (h : Kd.R k183 183 w base ok v l) : w.ownsRow base 183 7 v l.length (flat l) := by
  obtain ⟨_, inner, ho, hr⟩ := h
  have e : inner = flat l := flat_of_reps l inner hr.1 (fun j p hj => k183_openM (hr.2 j p hj))
  rw [← e]
  exact ho
theorem R_of_flat {w : World} {base : Nat} {v : Value} {l : List S183} (h : w.ownsRow base 183 7 v l.length (flat l)) : Kd.R k183 183 w base (fun _ => True) v l := by
  refine ⟨fun _ _ => trivial, flat l, h, flat_length l, fun j p hj => ?_⟩
  obtain ⟨hj1, rfl⟩ := List.getElem?_eq_some_iff.1 hj
  have := flat_get l j hj1
  show k183.M w base _ _ (((flat l).drop (j * 7)).take 7)
  rw [this]
  exact k183_mkM _ _ _ _
def zero183 : Value := .agg #[(.int .i64 0), (.int .i64 0), (.int .i64 0), (.int .i64 0), (.int .i64 0), (.int .i64 0), (.bool false)]
set_option maxRecDepth 100000 in
set_option maxHeartbeats 1000000 in
theorem run_zeros_grow (w : World) (base g n cap m : Nat) (xs : List Value) (hl : xs.length = n * 7) (hx : ∀ j u, xs[j]? = some u → w.cell? ((⟨g, 0, none⟩ : Addr).add j) = some u) (hm : 0 < m) (hcap : cap < n + m) (hb : (n + m) * 56 ≤ 140737488355328) (hbase : base ≤ w.heap.size) :
    ∃ v' w', (Builtin.append_ #[176, 3] 176 #[.slice (some ⟨g, 0, none⟩) n cap, .int .i64 (m : Int)]).run Tryz.prog w = .ok v' w' ∧ w'.ownsRow base 183 7 v' (n + m) (xs ++ (Builtin.zeroCells zero183.cells m).toList) ∧ w.grownBy w' none ∧ v'.ownBlock = some w.heap.size := by
  obtain ⟨i0, hi, hzz⟩ := Option.map_eq_some_iff.1 info183
  simp only [Prod.mk.injEq] at hzz
  obtain ⟨hz0, hz1, hz2⟩ := hzz
  have hw : IntKind.i64.wrap (m : Int) = m := by rw [IntKind.wrap_i64]; omega
  have hneg : ¬ ((m : Int) < 0) := by omega
  have hbig : ¬ (281474976710656 < (m : Int) * (i0.bytes : Int)) := by rw [hz2]; omega
  have hn : ¬ (n + m ≤ cap) := by omega
  have h63 : n + m ≤ maxLen := by simp only [maxLen]; omega
  have h63' : ¬ (9223372036854775807 < ((n : Int) + (m : Int))) := by omega
  have hfit := growslice_fits (bytes := i0.bytes) hcap (by rw [hz2]; exact hb)
  have h48' : ¬ (281474976710656 < Builtin.nextslicecap (n + m) cap * i0.bytes) := by omega
  have hfo : (Builtin.firstCells 7 n (.slice (some ⟨g, 0, none⟩) n cap)).run Tryz.prog w.drew = .ok xs.toArray w.drew := run_firstCells_some (P := Tryz.prog) w.drew 7 n _ n cap xs hl (by simpa using hx)
  have hmz : ¬ (m * 7 = 0) := by omega
  obtain ⟨news, hnews⟩ : ∃ news, news = (Builtin.zeroCells zero183.cells m).toList := ⟨_, rfl⟩
  have hna : Builtin.zeroCells zero183.cells m = news.toArray := by rw [hnews]
  have hnl : news.length = m * 7 := by rw [hnews, Array.length_toList, size_zeroCells]; rfl
  have hge := grownCap_ge w (n + m) cap 183
  have hcm : grownCap w (n + m) cap 183 ≤ maxLen := grownCap_le_maxLen w (n + m) cap 183 h63
  refine ⟨.slice (some ⟨w.heap.size, 0, none⟩) (n + m) (grownCap w (n + m) cap 183), w.drew.alloc (.cells (xs.toArray ++ news.toArray ++ Builtin.zeroCells zero183.cells (grownCap w (n + m) cap 183 - (n + m))) 183), ?_, ?_, ⟨rfl, rfl, rfl, by simp, fun k hk _ => heap_alloc_old w.drew _ hk⟩, rfl⟩
  · have hz0' : i0.zero = some zero183 := hz0
    simp [Builtin.append_, run_underlying Tryz.underlying176, run_underlying Tryz.underlying3, sizeOf, typeInfo, zeroValue, hi, hz0', hz1, asInt, asIntOf, hw, hneg, hbig, hn, h63', h48', Question.forced, hfo, newRow, grownCap, hmz, hna]
    congr 2
    apply Array.ext'
    simp [List.append_assoc]
  · rw [← hnews]
    have hlen : (xs ++ news).length = (n + m) * 7 := by rw [List.length_append, hl, hnl]; omega
    refine ⟨hlen, .inr ⟨w.heap.size, _, _, rfl, hbase, heap_alloc_new w.drew _, hge, hcm, ?_, ?_⟩⟩
    · have h7 : zero183.cells.size = 7 := rfl
      simp only [Array.size_append, List.size_toArray, size_zeroCells, hl, hnl, h7]; omega
    · simp only [Array.toList_append, List.append_assoc]
      rw [← List.append_assoc, ← hlen]
      exact List.take_left
set_option maxHeartbeats 1000000 in
theorem run_copy7 (w : World) (ty : TypeId) (g o dLen dCap : Nat) (a : Addr) (sLen sCap : Nat) (cur : Array Value) (t : TypeId) (cs : List Value)
    (hg : w.heap[g]? = some (.cells cur t (0, 0))) (hn : cs.length = Nat.min sLen dLen * 7)
    (hsrc : ∀ j v, cs[j]? = some v → w.cell? (a.add j) = some v) (hfit : o + cs.length ≤ cur.size) (h1 : ∀ v ∈ cs, v.oneCell' = true) :
    (Builtin.copy_ #[176, 176] ty #[.slice (some ⟨g, o, none⟩) dLen dCap, .slice (some a) sLen sCap]).run Tryz.prog w =
      .ok (goInt (Nat.min sLen dLen)) (w.setRow g (cur.toList.take o ++ cs ++ cur.toList.drop (o + cs.length)).toArray) := by
  obtain ⟨i0, hi, hzz⟩ := Option.map_eq_some_iff.1 info183
  simp only [Prod.mk.injEq] at hzz
  obtain ⟨hz0, hz1, hz2⟩ := hzz
  have hl := run_loadCells_list (P := Tryz.prog) w a cs hsrc
  have hst := run_storeCells_at Tryz.prog g o t cs 0 cur w hg (by simpa using hfit) h1
  simp [Builtin.copy_, run_underlying Tryz.underlying176, Builtin.lenOf, Builtin.firstCells, sizeOf, typeInfo, hi, hz1, ← hn, hl, hst]
end Go.Proofs.YthhmfeiefbnhcaaGreat.Due
namespace Go.Proofs.YthhmfeiefbnhcaaGreat.Due
open Go.RowKit Go.Proofs.YthhmfeiefbnhcaaGreat.PDueParts Go.Proofs.YthhmfeiefbnhcaaGreatW.PrintWords Go.Proofs.YthhmfeiefbnhcaaGreatW.PrintLast
set_option linter.unusedVariables false
set_option linter.unusedSimpArgs false
section
variable {P : Program} {ops : Array Oper} {rest : List Oper} {o : Oper} {a : Act} {Q : Exit → Act → World → Prop}
theorem append_event {W w1 : World} (hgd : o.guard = none) {x y : Operand} {t t' : TypeId} (ho : o.op = .call { callee := .builtin .append, args := #[x, y], argTypes := #[t, t'] }) {vx vy v : Value} (hx : a.eval x = vx) (hy : a.eval y = vy)
    (hrun : (Builtin.append_ #[t, t'] o.type #[vx, vy]).run P W = .ok v w1) (h : wpList P ops Q rest (a.put o.dst v) w1) : wpList P ops Q (o :: rest) a W := by
  refine Kd.event_run hgd ?_ h
  simp [execOp, ho, resolve, invoke, builtin, hx, hy, hrun, Result.andThen]
theorem copy_event {W w1 : World} (hgd : o.guard = none) {x y : Operand} {t t' : TypeId} (ho : o.op = .call { callee := .builtin .copy, args := #[x, y], argTypes := #[t, t'] }) {vx vy v : Value} (hx : a.eval x = vx) (hy : a.eval y = vy)
    (hrun : (Builtin.copy_ #[t, t'] o.type #[vx, vy]).run P W = .ok v w1) (h : wpList P ops Q rest (a.put o.dst v) w1) : wpList P ops Q (o :: rest) a W := by
  refine Kd.event_run hgd ?_ h
  simp [execOp, ho, resolve, invoke, builtin, hx, hy, hrun, Result.andThen]
theorem copy_step7 {W w1 : World} {Kc : Act → World → Prop} (hw : Region.wanted o (yielded ops a.tmps) = true) {x y : Operand} {t t' : TypeId} (ho : o.op = .call { callee := .builtin .copy, args := #[x, y], argTypes := #[t, t'] }) {vx vy v : Value} (hx : a.eval x = vx) (hy : a.eval y = vy)
    (hrun : (Builtin.copy_ #[t, t'] o.type #[vx, vy]).run P W = .ok v w1) (h : Kc (a.put o.dst v) w1) : if Region.wanted o (yielded ops a.tmps) = true then Oper.wp P o a W Kc Q else Kc (a.put o.dst undef) W := by
  refine event_step hw ?_ h
  simp [execOp, ho, resolve, invoke, builtin, hx, hy, hrun, Result.andThen]
end
theorem add_off (g o j : Nat) : (⟨g, o, none⟩ : Addr).add j = ⟨g, o + j, none⟩ := by unfold Addr.add; split <;> simp_all
def InsPost (W : World) (base : Nat) (v : Value) (l : List S183) (e : Ending) (w' : World) : Prop :=
  ∃ v', e = .returned v' ∧ Kd.R k183 183 w' base (fun _ => True) v' l ∧ W.grownBy w' v.ownBlock ∧ base ≤ w'.heap.size
theorem reads_one {W : World} {bv : Nat} {p : S183} (hv : W.heap[bv]? = some (.cells (cellsP p).toArray 183 (0, 0))) : ReadsRow (fun q cs => q = p ∧ cs = cellsP p) k183.sz W (some ⟨bv, 0, none⟩) 1 [p] :=
  ⟨rfl, by omega, fun _ => ⟨_, rfl, fun j q hj => by
    cases j with
    | zero =>
      obtain rfl : p = q := by simpa using hj
      refine ⟨cellsP p, rfl, ⟨rfl, rfl⟩, fun k u hu => ?_⟩
      rw [show 0 * k183.sz + k = k by omega, add_plain, blk_cell hv k]
      simpa using hu
    | succ j => simp at hj⟩⟩
set_option maxHeartbeats 1000000 in
theorem insert_end (W : World) (base : Nat) (v : Value) (l : List S183) (p : S183) (bv : Nat) (hR : Kd.R k183 183 W base (fun _ => True) v l) (hv : W.heap[bv]? = some (.cells (cellsP p).toArray 183 (0, 0))) (hsz : l.length ≤ 1000000) (hb : base ≤ W.heap.size) :
    Calls Tryz.prog 140 #[v, .int .i64 (l.length : Nat), .slice (some ⟨bv, 0, none⟩) 1 1] W (InsPost W base v (l ++ [p])) := by
  obtain ⟨A, c, rfl, hle, hC⟩ := Kd.R_reads hR
  have HV := Aside0.mk (reads_one hv)
  have HR := Aside0.mk hR
  have HL := Aside0.mk (by omega : (l.length + 1) * 56 ≤ 140737488355328)
  clear hR hv hC
  by_cases hcap : c = l.length
  · subst hcap
    go_enter Tryz.func140, Tryz.ntmps140
    go_wp2_with ((with_reducible refine gate_dst (N := 25) rfl ?_); refine Kd.R_append_rows k183 (Rr := fun q cs => q = p ∧ cs = cellsP p) (w0 := W) base rfl (.tmp 23) (.tmp 24) 176 183 zero183 56 rfl Tryz.underlying176 info183 rfl (by decide) (by omega) (.slice A l.length l.length) l [p] (some ⟨bv, 0, none⟩) 1 1 (fun _ => True) (fun _ => False) rfl rfl HR.out HV.out (fun _ _ h => by obtain ⟨rfl, rfl⟩ := h; exact k183_mkM _ _ _ _) (fun _ h => h.elim) (fun _ _ => trivial) (Below.refl _ _) hb HL.out ?_; intro v1 w1 hR1 _ hg1 _; have H1 := Aside0.mk hR1; have H2 := Aside0.mk hg1; clear hR1 hg1)
    go_ret
    exact ⟨_, rfl, H1.out, H2.out, Nat.le_trans hb H2.out.size⟩
  · have hlt : l.length < c := by omega
    go_enter Tryz.func140, Tryz.ntmps140
    go_wp2_with ((with_reducible refine gate_dst (N := 25) rfl ?_); refine Kd.R_append_rows k183 (Rr := fun q cs => q = p ∧ cs = cellsP p) (w0 := W) base rfl (.tmp 23) (.tmp 24) 176 183 zero183 56 rfl Tryz.underlying176 info183 rfl (by decide) (by omega) (.slice A l.length c) l [p] (some ⟨bv, 0, none⟩) 1 1 (fun _ => True) (fun _ => False) rfl rfl HR.out HV.out (fun _ _ h => by obtain ⟨rfl, rfl⟩ := h; exact k183_mkM _ _ _ _) (fun _ h => h.elim) (fun _ _ => trivial) (Below.refl _ _) hb HL.out ?_; intro v1 w1 hR1 _ hg1 _; have H1 := Aside0.mk hR1; have H2 := Aside0.mk hg1; clear hR1 hg1)
    go_ret
    exact ⟨_, rfl, H1.out, H2.out, Nat.le_trans hb H2.out.size⟩
theorem own_cells {w : World} {base n : Nat} {v : Value} {xs : List Value} (h : w.ownsRow base 183 7 v n xs) (hn : 0 < n) :
    ∃ g c cur, v = .slice (some ⟨g, 0, none⟩) n c ∧ base ≤ g ∧ w.heap[g]? = some (.cells cur 183 (0, 0)) ∧ n ≤ c ∧ c ≤ maxLen ∧ cur.size = c * 7 ∧ cur.toList.take (n * 7) = xs := by
  rcases h.2 with ⟨_, h0⟩ | h
  · omega
  · exact h
set_option maxRecDepth 100000 in
set_option maxHeartbeats 2000000 in
theorem insert_grow (W : World) (base : Nat) (g c : Nat) (cur : Array Value) (l : List S183) (i : Nat) (p : S183) (bv : Nat) (hg : W.heap[g]? = some (.cells cur 183 (0, 0))) (hcs : cur.size = c * 7) (htake : cur.toList.take (l.length * 7) = flat l)
    (hbg : base ≤ g) (hi : i < l.length) (hlc : l.length ≤ c) (hc : c < l.length + 1) (hv : W.heap[bv]? = some (.cells (cellsP p).toArray 183 (0, 0))) (hsz : l.length ≤ 1000000) (hb : base ≤ W.heap.size) :
    Calls Tryz.prog 140 #[.slice (some ⟨g, 0, none⟩) l.length c, .int .i64 i, .slice (some ⟨bv, 0, none⟩) 1 1] W (InsPost W base (.slice (some ⟨g, 0, none⟩) l.length c) (l.take i ++ p :: l.drop i)) := by
  have hcell : ∀ j u, (flat l)[j]? = some u → W.cell? ((⟨g, 0, none⟩ : Addr).add j) = some u := by
    intro j u hu
    rw [add_plain, blk_cell hg j, ← htake, List.getElem?_take] at *
    split at hu
    · simpa using hu
    · cases hu
  obtain ⟨v1, w1, hrun, hown, hgr, hob⟩ := run_zeros_grow W base g i c (l.length + 1 - i) ((flat l).take (i * 7)) (by rw [List.length_take, flat_length]; omega)
    (fun j u hu => hcell j u (by rw [List.getElem?_take] at hu; split at hu; exact hu; cases hu)) (by omega) (by omega) (by omega) hb
  rw [show i + (l.length + 1 - i) = l.length + 1 by omega] at hown
  obtain ⟨g1, c1, cur1, rfl, hbg1, hg1, hlc1, hcm1, hcs1, htake1⟩ := own_cells hown (by omega)
  obtain rfl : g1 = W.heap.size := by simpa [Value.ownBlock] using hob
  have hcast : (((l.length + 1 - i : Nat)) : Int) = (l.length : Int) + 1 - (i : Int) := by omega
  rw [hcast] at hrun
  have HRUN := Aside0.mk hrun
  have hgl : g < W.heap.size := blk_lt hg
  have hbvl : bv < W.heap.size := blk_lt hv
  have hv1 : w1.heap[bv]? = some (.cells (cellsP p).toArray 183 (0, 0)) := (hgr.block bv hbvl (by simp)).trans hv
  have hgw1 : w1.heap[g]? = some (.cells cur 183 (0, 0)) := (hgr.block g hgl (by simp)).trans hg
  have hrun2 := run_copy7 w1 3 W.heap.size (i * 7) (l.length + 1 - i) (c1 - i) ⟨bv, 0, none⟩ 1 1 cur1 183 (cellsP p) hg1 (by rw [show Nat.min 1 (l.length + 1 - i) = 1 from Nat.min_eq_left (by omega)]; rfl)
    (fun j u hu => by rw [add_plain, blk_cell hv1 j]; simpa using hu) (by rw [hcs1, cellsP_length]; omega) (fun u hu => flat_one [p] u (by simpa [flat] using hu))
  rw [show Nat.min 1 (l.length + 1 - i) = 1 from Nat.min_eq_left (by omega)] at hrun2
  obtain ⟨row1, hrow1⟩ : ∃ row1, row1 = cur1.toList.take (i * 7) ++ cellsP p ++ cur1.toList.drop (i * 7 + (cellsP p).length) := ⟨_, rfl⟩
  rw [← hrow1] at hrun2
  obtain ⟨w2, hw2⟩ : ∃ w2, w2 = w1.setRow W.heap.size row1.toArray := ⟨_, rfl⟩
  rw [← hw2] at hrun2
  have hg2 : w2.heap[W.heap.size]? = some (.cells row1.toArray 183 (0, 0)) := by rw [hw2]; exact setRow_heap w1 _ cur1 _ 183 _ hg1
  have hb2 : Below W.heap.size W w2 := by
    rw [hw2]
    exact below_setRow ((Below.refl _ W).grown hgr (Nat.le_refl _) (fun k hk => by cases hk)) (Nat.le_refl _) _
  have HRUN2 := Aside0.mk hrun2
  have HG2 := Aside0.mk hg2
  have HG := Aside0.mk ((hb2.block g hgl).trans hg)
  have HB2 := Aside0.mk hb2
  have HT1 := Aside0.mk htake1
  have HT := Aside0.mk htake
  have HC1 := Aside0.mk hcs1
  have HC := Aside0.mk hcs
  have HRW := Aside0.mk hrow1
  have HCM := Aside0.mk hcm1
  have hcc : c1 ≤ 9223372036854775807 := by unfold maxLen at hcm1; omega
  have q1 : (i : Int) < (l.length : Int) := by omega
  have q2 : (l.length : Int) + 1 ≤ (c1 : Int) := by omega
  have q3 : (c : Int) < (l.length : Int) + 1 := by omega
  have q4 : (l.length : Int) ≤ (c : Int) := by omega
  clear hrun hcast hrun2 hg2 hb2 htake1 htake hcs1 hcs hrow1 hgw1 hv1 hg1 hown hgr hob hcell hv hg hw2 hcm1
  go_enter Tryz.func140, Tryz.ntmps140
  go_wp2_with (first
    | ((with_reducible refine gate_dst (N := 40) rfl ?_); refine append_event rfl rfl rfl rfl HRUN.out ?_)
    | ((with_reducible refine gate_dst (N := 45) rfl ?_); refine copy_event rfl rfl rfl rfl HRUN2.out ?_))
  refine start_ (n := 9) (S := fun _ => True) (ds := []) #[false, false, false, false, false, false, false, false, false] (by kernel_rfl) rfl rfl trivial ?_
  intro _
  have HG3 := Aside0.mk (show w2.drew.heap[W.heap.size]? = some (.cells row1.toArray 183 (0, 0)) from HG2.out)
  have HG4 := Aside0.mk (show w2.drew.heap[g]? = some (.cells cur 183 (0, 0)) from HG.out)
  have HB3 := Aside0.mk HB2.out.drew
  generalize w2.drew = w3 at *
  have r1 : wrap64 ((i : Int) + 1) = (i : Int) + 1 := by unfold wrap64; omega
  have r2 : ((i : Int) + 1).toNat = i + 1 := by omega
  have r3 : (0 : Int) ≤ (i : Int) + 1 := by omega
  have r4 : (i : Int) + 1 ≤ (l.length : Int) + 1 := by omega
  have r5 : ¬ c1 = i + 1 := by omega
  have r6 : i ≤ l.length := by omega
  have r7 : ¬ c = i := by omega
  refine pure_ (i := 0) (N := some 46) (v := ?_) (a' := ?_) #[true, false, false, false, false, false, false, false, false] rfl rfl (by kernel_rfl) (fun _ _ _ h => h) (Or.inl ⟨by rfl, ?_⟩) ?_ ?_
  rotate_left
  · intro w'
    go_simp
    with_reducible rfl
  rotate_left
  · simp only [Act.put, List.setIfInBounds_toArray, List.set_cons_zero, List.set_cons_succ, i64_w, i32_w]
    rfl
  refine pure_ (i := 1) (N := some 47) (v := ?_) (a' := ?_) #[true, true, false, false, false, false, false, false, false] rfl rfl (by kernel_rfl) (fun _ _ _ h => h) (Or.inl ⟨by rfl, ?_⟩) ?_ ?_
  rotate_left
  · intro w'
    go_simp
    with_reducible rfl
  rotate_left
  · simp only [Act.put, List.setIfInBounds_toArray, List.set_cons_zero, List.set_cons_succ, i64_w, i32_w]
    rfl
  refine pure_ (i := 2) (N := some 48) (v := ?_) (a' := ?_) #[true, true, true, false, false, false, false, false, false] rfl rfl (by kernel_rfl) (fun _ _ _ h => h) (Or.inl ⟨by rfl, ?_⟩) ?_ ?_
  rotate_left
  · intro w'
    go_simp
    with_reducible rfl
  rotate_left
  · simp only [Act.put, List.setIfInBounds_toArray, List.set_cons_zero, List.set_cons_succ, i64_w, i32_w]
    rfl
  refine pure_ (i := 3) (N := some 49) (v := ?_) (a' := ?_) #[true, true, true, true, false, false, false, false, false] rfl rfl (by kernel_rfl) (fun _ _ _ h => h) (Or.inl ⟨by rfl, ?_⟩) ?_ ?_
  rotate_left
  · intro w'
    go_simp
    with_reducible rfl
  rotate_left
  · simp only [Act.put, List.setIfInBounds_toArray, List.set_cons_zero, List.set_cons_succ, i64_w, i32_w]
    rfl
  refine pure_ (i := 4) (N := some 50) (v := ?_) (a' := ?_) #[true, true, true, true, true, false, false, false, false] rfl rfl (by kernel_rfl) (fun _ _ _ h => h) (Or.inl ⟨by rfl, ?_⟩) ?_ ?_
  rotate_left
  · intro w'
    go_simp
    with_reducible rfl
  rotate_left
  · simp only [Act.put, List.setIfInBounds_toArray, List.set_cons_zero, List.set_cons_succ, i64_w, i32_w]
    rfl
  refine pure_ (i := 5) (N := some 51) (v := ?_) (a' := ?_) #[true, true, true, true, true, true, false, false, false] rfl rfl (by kernel_rfl) (fun _ _ _ h => h) (Or.inl ⟨by rfl, ?_⟩) ?_ ?_
  rotate_left
  · intro w'
    go_simp
    with_reducible rfl
  rotate_left
  · simp only [Act.put, List.setIfInBounds_toArray, List.set_cons_zero, List.set_cons_succ, i64_w, i32_w]
    rfl
  refine pure_ (i := 6) (N := some 52) (v := ?_) (a' := ?_) #[true, true, true, true, true, true, true, false, false] rfl rfl (by kernel_rfl) (fun _ _ _ h => h) (Or.inl ⟨by rfl, ?_⟩) ?_ ?_
  rotate_left
  · intro w'
    go_simp
    with_reducible rfl
  rotate_left
  · simp only [Act.put, List.setIfInBounds_toArray, List.set_cons_zero, List.set_cons_succ, i64_w, i32_w]
    rfl
  refine pure_ (i := 7) (N := some 53) (v := ?_) (a' := ?_) #[true, true, true, true, true, true, true, true, false] rfl rfl (by kernel_rfl) (fun _ _ _ h => h) (Or.inl ⟨by rfl, ?_⟩) ?_ ?_
  rotate_left
  · intro w'
    go_simp
    with_reducible rfl
  rotate_left
  · simp only [Act.put, List.setIfInBounds_toArray, List.set_cons_zero, List.set_cons_succ, i64_w, i32_w]
    rfl
  refine one_ (i := 8) (N := some 54) #[true, true, true, true, true, true, true, true, true] rfl rfl (by kernel_rfl) (by decide) (fun K hK => ?_)
  clear r1 r2 r3 r4 r5 r6 r7
  have hcs3 : ((flat l).drop (i * 7)).length = (l.length - i) * 7 := by rw [List.length_drop, flat_length]; omega
  have hrl : row1.length = c1 * 7 := by
    rw [HRW.out, List.length_append, List.length_append, List.length_take, List.length_drop, cellsP_length, Array.length_toList, HC1.out]; omega
  have hmin : Nat.min (l.length - i) (l.length - i) = l.length - i := Nat.min_self _
  have hrun3 := run_copy7 w3 3 W.heap.size ((i + 1) * 7) (l.length - i) (c1 - (i + 1)) ⟨g, i * 7, none⟩ (l.length - i) (c - i) row1.toArray 183 ((flat l).drop (i * 7)) HG3.out (by rw [hmin, hcs3])
    (fun j u hu => by
      rw [List.getElem?_drop] at hu
      have hlt := (List.getElem?_eq_some_iff.1 hu).1
      rw [flat_length] at hlt
      rw [add_off, blk_cell HG4.out]
      rw [← HT.out, List.getElem?_take] at hu
      rw [if_pos (by omega)] at hu
      simpa using hu)
    (by rw [hcs3, List.size_toArray, hrl]; omega) (fun u hu => flat_one l u (List.mem_of_mem_drop hu))
  rw [hmin] at hrun3
  refine copy_step7 (by rfl) rfl rfl rfl (w1 := w3.setRow W.heap.size (row1.toArray.toList.take ((i + 1) * 7) ++ (flat l).drop (i * 7) ++ row1.toArray.toList.drop ((i + 1) * 7 + ((flat l).drop (i * 7)).length)).toArray) (v := goInt ((l.length - i : Nat) : Int)) ?_ ?_
  · simp only [Act.eval, Array.getD_eq_getD_getElem?, List.getElem?_toArray, List.getElem?_cons_succ, List.getElem?_cons_zero, Option.getD_some]
    exact hrun3
  refine hK.out _ _ trivial (fun _ => ?_)
  refine done_ (by kernel_rfl) ?_
  obtain ⟨row2, hrow2⟩ : ∃ row2, row2 = row1.take ((i + 1) * 7) ++ (flat l).drop (i * 7) ++ row1.drop ((i + 1) * 7 + ((flat l).drop (i * 7)).length) := ⟨_, rfl⟩
  have HRW2 := Aside0.mk hrow2
  obtain ⟨w4, hw4⟩ : ∃ w4, w4 = w3.setRow W.heap.size (row1.toArray.toList.take ((i + 1) * 7) ++ (flat l).drop (i * 7) ++ row1.toArray.toList.drop ((i + 1) * 7 + ((flat l).drop (i * 7)).length)).toArray := ⟨_, rfl⟩
  have hg4 : w4.heap[W.heap.size]? = some (.cells row2.toArray 183 (0, 0)) := by
    have := setRow_heap w3 W.heap.size row1.toArray (row1.take ((i + 1) * 7) ++ (flat l).drop (i * 7) ++ row1.drop ((i + 1) * 7 + ((flat l).drop (i * 7)).length)).toArray 183 _ HG3.out
    rw [hw4, hrow2]; exact this
  have HB4 := Aside0.mk (by rw [hw4]; exact below_setRow HB3.out (Nat.le_refl _) _ : Below W.heap.size W w4)
  have HG5 := Aside0.mk hg4
  have HRL := Aside0.mk hrl
  have HC3 := Aside0.mk hcs3
  rw [← hw4]
  clear hcs3 hrl hmin hrun3 hrow2 hw4 hg4
  go_wp2
  go_ret
  refine ⟨_, rfl, R_of_flat ?_, grown_of_below HB4.out _ , Nat.le_trans hb HB4.out.size⟩
  have hll : (l.take i ++ p :: l.drop i).length = l.length + 1 := by simp; omega
  rw [hll]
  have hff : flat (l.take i ++ p :: l.drop i) = (flat l).take (i * 7) ++ (cellsP p ++ (flat l).drop (i * 7)) := by
    rw [flat_append, flat_take]
    show _ ++ (cellsP p ++ flat (l.drop i)) = _
    rw [flat_drop]
  refine ⟨by rw [flat_length, hll], .inr ⟨W.heap.size, c1, row2.toArray, rfl, hbg1, HG5.out, hlc1, HCM.out, ?_, ?_⟩⟩
  · rw [HRW2.out, List.size_toArray, List.length_append, List.length_append, List.length_take, List.length_drop, List.length_drop, HRL.out, flat_length]; omega
  · rw [hff, HRW2.out]
    have h1 : row1.take ((i + 1) * 7) = (flat l).take (i * 7) ++ cellsP p := by
      rw [HRW.out]
      have h0 : cur1.toList.take (i * 7) = (flat l).take (i * 7) := by
        have := congrArg (List.take (i * 7)) HT1.out
        rw [List.take_take, Nat.min_eq_left (by omega)] at this
        rw [this]
        rw [List.take_append_of_le_length (by rw [List.length_take, flat_length]; omega), List.take_take, Nat.min_self]
      rw [h0, show (i + 1) * 7 = ((flat l).take (i * 7) ++ cellsP p).length by rw [List.length_append, List.length_take, flat_length, cellsP_length]; omega]
      exact List.take_left
    rw [h1]
    show List.take _ (_ ++ _ ++ _) = _
    rw [show (l.length + 1) * 7 = ((flat l).take (i * 7) ++ cellsP p ++ (flat l).drop (i * 7)).length by rw [List.length_append, List.length_append, List.length_take, List.length_drop, flat_length, cellsP_length]; omega]
    rw [List.take_left, List.append_assoc]
end Go.Proofs.YthhmfeiefbnhcaaGreat.Due
namespace Go.Proofs.YthhmfeiefbnhcaaGreat.Due
open Go.RowKit Go.Proofs.YthhmfeiefbnhcaaGreat.PDueParts Go.Proofs.YthhmfeiefbnhcaaGreatW.PrintWords Go.Proofs.YthhmfeiefbnhcaaGreatW.PrintLast
set_option linter.unusedVariables false
set_option linter.unusedSimpArgs false
theorem size183 : ∀ w, (Go.sizeOf 183).run Tryz.prog w = .ok 7 w := fun w => by
  obtain ⟨i0, hi, hzz⟩ := Option.map_eq_some_iff.1 info183
  simp only [Prod.mk.injEq] at hzz
  simp [sizeOf, typeInfo, hi, hzz.2.1]
theorem grown_setRow (W : World) (g : Nat) (cs : Array Value) : W.grownBy (W.setRow g cs) (some g) :=
  ⟨rfl, rfl, rfl, by simp, fun k _ hk => setRow_other W g k cs (fun e => hk (by rw [e]))⟩
theorem overlaps_no (w : World) (g o bv la ca lb cb : Nat) (cur1 cur2 : Array Value) (hg : w.heap[g]? = some (.cells cur1 183 (0, 0))) (hv : w.heap[bv]? = some (.cells cur2 183 (0, 0))) (hne : bv ≠ g) (h0 : cur1.size ≠ 0) :
    (callFunc 167 #[.slice (some ⟨bv, 0, none⟩) la ca, .slice (some ⟨g, o, none⟩) lb cb]).run Tryz.prog w = .ok (.value (.bool false)) w := by
  rw [run_callFunc_extern (fn := Tryz.f167) (by kernel_rfl) (by kernel_rfl) (by kernel_rfl) (by kernel_rfl) (e := Extern.SlicesOverlaps.overlaps #[176, 176] #[4]) (by kernel_rfl),
    Lib.run_overlaps_apart w 176 4 183 Tryz.underlying176 7 size183 ⟨bv, 0, none⟩ ⟨g, o, none⟩ la ca lb cb hne 183 183 cur2.size cur1.size (by simp [World.shape?, hv]) (by simp [World.shape?, hg]) h0 (by simp [World.frozen?, hv]) (by simp [World.frozen?, hv])]
  rfl
set_option maxRecDepth 100000 in
set_option maxHeartbeats 2000000 in
theorem insert_room (W : World) (base : Nat) (g c : Nat) (cur : Array Value) (l : List S183) (i : Nat) (p : S183) (bv : Nat) (hg : W.heap[g]? = some (.cells cur 183 (0, 0))) (hcs : cur.size = c * 7) (htake : cur.toList.take (l.length * 7) = flat l)
    (hbg : base ≤ g) (hi : i < l.length) (hlc : l.length + 1 ≤ c) (hcm : c ≤ maxLen) (hv : W.heap[bv]? = some (.cells (cellsP p).toArray 183 (0, 0))) (hne : bv ≠ g) (hsz : l.length ≤ 1000000) (hb : base ≤ W.heap.size) :
    Calls Tryz.prog 140 #[.slice (some ⟨g, 0, none⟩) l.length c, .int .i64 i, .slice (some ⟨bv, 0, none⟩) 1 1] W (InsPost W base (.slice (some ⟨g, 0, none⟩) l.length c) (l.take i ++ p :: l.drop i)) := by
  have hov : ∀ lb cb, (callFunc 167 #[.slice (some ⟨bv, 0, none⟩) 1 1, .slice (some ⟨g, (i + 1) * 7, none⟩) lb cb]).run Tryz.prog W = .ok (.value (.bool false)) W :=
    fun lb cb => overlaps_no W g _ bv 1 1 lb cb cur _ hg hv hne (by omega)
  have HOV := Aside0.mk hov
  have HG := Aside0.mk hg
  have HV := Aside0.mk hv
  have HT := Aside0.mk htake
  have HC := Aside0.mk hcs
  have HCM := Aside0.mk hcm
  have HLC := Aside0.mk hlc
  have HI := Aside0.mk hi
  have HNE := Aside0.mk hne
  have HBG := Aside0.mk hbg
  have HBS := Aside0.mk hb
  have hcc : c ≤ 9223372036854775807 := by unfold maxLen at hcm; omega
  have q1 : (i : Int) < (l.length : Int) := by omega
  have q2 : ¬ ((c : Int) < (l.length : Int) + 1) := by omega
  have q3 : (l.length : Int) + 1 ≤ (c : Int) := by omega
  have r1 : wrap64 ((i : Int) + 1) = (i : Int) + 1 := by unfold wrap64; omega
  have r2 : ((i : Int) + 1).toNat = i + 1 := by omega
  have r3 : (0 : Int) ≤ (i : Int) + 1 := by omega
  have r4 : (i : Int) + 1 ≤ (l.length : Int) + 1 := by omega
  have r5 : ¬ c = i + 1 := by omega
  have r6 : i ≤ l.length := by omega
  have r7 : ¬ c = i := by omega
  have r8 : (i : Int) ≤ (l.length : Int) + 1 := by omega
  clear hg hv hcs htake hov hcm
  go_enter Tryz.func140, Tryz.ntmps140
  go_wp2_with (simp only [HOV.out])
  refine start_ (n := 9) (S := fun _ => True) (ds := []) #[false, false, false, false, false, false, false, false, false] (by kernel_rfl) rfl rfl trivial ?_
  intro _
  have HG3 := Aside0.mk (show W.drew.heap[g]? = some (.cells cur 183 (0, 0)) from HG.out)
  have HV3 := Aside0.mk (show W.drew.heap[bv]? = some (.cells (cellsP p).toArray 183 (0, 0)) from HV.out)
  have HB3 := Aside0.mk (show W.grownBy W.drew (some g) from ⟨rfl, rfl, rfl, Nat.le_refl _, fun _ _ _ => rfl⟩)
  generalize W.drew = w3 at *
  refine pure_ (i := 0) (N := some 69) (v := ?_) (a' := ?_) #[true, false, false, false, false, false, false, false, false] rfl rfl (by kernel_rfl) (fun _ _ _ h => h) (Or.inl ⟨by rfl, ?_⟩) ?_ ?_
  rotate_left
  · intro w'
    go_simp
    with_reducible rfl
  rotate_left
  · simp only [Act.put, List.setIfInBounds_toArray, List.set_cons_zero, List.set_cons_succ, i64_w, i32_w]
    rfl
  refine pure_ (i := 1) (N := some 70) (v := ?_) (a' := ?_) #[true, true, false, false, false, false, false, false, false] rfl rfl (by kernel_rfl) (fun _ _ _ h => h) (Or.inl ⟨by rfl, ?_⟩) ?_ ?_
  rotate_left
  · intro w'
    go_simp
    with_reducible rfl
  rotate_left
  · simp only [Act.put, List.setIfInBounds_toArray, List.set_cons_zero, List.set_cons_succ, i64_w, i32_w]
    rfl
  refine pure_ (i := 2) (N := some 71) (v := ?_) (a' := ?_) #[true, true, true, false, false, false, false, false, false] rfl rfl (by kernel_rfl) (fun _ _ _ h => h) (Or.inl ⟨by rfl, ?_⟩) ?_ ?_
  rotate_left
  · intro w'
    go_simp
    with_reducible rfl
  rotate_left
  · simp only [Act.put, List.setIfInBounds_toArray, List.set_cons_zero, List.set_cons_succ, i64_w, i32_w]
    rfl
  refine pure_ (i := 3) (N := some 72) (v := ?_) (a' := ?_) #[true, true, true, true, false, false, false, false, false] rfl rfl (by kernel_rfl) (fun _ _ _ h => h) (Or.inl ⟨by rfl, ?_⟩) ?_ ?_
  rotate_left
  · intro w'
    go_simp
    with_reducible rfl
  rotate_left
  · simp only [Act.put, List.setIfInBounds_toArray, List.set_cons_zero, List.set_cons_succ, i64_w, i32_w]
    rfl
  refine pure_ (i := 4) (N := some 73) (v := ?_) (a' := ?_) #[true, true, true, true, true, false, false, false, false] rfl rfl (by kernel_rfl) (fun _ _ _ h => h) (Or.inl ⟨by rfl, ?_⟩) ?_ ?_
  rotate_left
  · intro w'
    go_simp
    with_reducible rfl
  rotate_left
  · simp only [Act.put, List.setIfInBounds_toArray, List.set_cons_zero, List.set_cons_succ, i64_w, i32_w]
    rfl
  refine pure_ (i := 5) (N := some 74) (v := ?_) (a' := ?_) #[true, true, true, true, true, true, false, false, false] rfl rfl (by kernel_rfl) (fun _ _ _ h => h) (Or.inl ⟨by rfl, ?_⟩) ?_ ?_
  rotate_left
  · intro w'
    go_simp
    with_reducible rfl
  rotate_left
  · simp only [Act.put, List.setIfInBounds_toArray, List.set_cons_zero, List.set_cons_succ, i64_w, i32_w]
    rfl
  refine pure_ (i := 6) (N := some 75) (v := ?_) (a' := ?_) #[true, true, true, true, true, true, true, false, false] rfl rfl (by kernel_rfl) (fun _ _ _ h => h) (Or.inl ⟨by rfl, ?_⟩) ?_ ?_
  rotate_left
  · intro w'
    go_simp
    with_reducible rfl
  rotate_left
  · simp only [Act.put, List.setIfInBounds_toArray, List.set_cons_zero, List.set_cons_succ, i64_w, i32_w]
    rfl
  refine pure_ (i := 7) (N := some 76) (v := ?_) (a' := ?_) #[true, true, true, true, true, true, true, true, false] rfl rfl (by kernel_rfl) (fun _ _ _ h => h) (Or.inl ⟨by rfl, ?_⟩) ?_ ?_
  rotate_left
  · intro w'
    go_simp
    with_reducible rfl
  rotate_left
  · simp only [Act.put, List.setIfInBounds_toArray, List.set_cons_zero, List.set_cons_succ, i64_w, i32_w]
    rfl
  refine one_ (i := 8) (N := some 77) #[true, true, true, true, true, true, true, true, true] rfl rfl (by kernel_rfl) (by decide) (fun K hK => ?_)
  clear r1 r2 r3 r4 r5 r6 r7
  have hcs3 : ((flat l).drop (i * 7)).length = (l.length - i) * 7 := by rw [List.length_drop, flat_length]; omega
  have hmin : Nat.min (l.length + 1 - i) (l.length - i) = l.length - i := Nat.min_eq_right (by omega)
  have hrun3 := run_copy7 w3 3 g ((i + 1) * 7) (l.length - i) (c - (i + 1)) ⟨g, i * 7, none⟩ (l.length + 1 - i) (c - i) cur 183 ((flat l).drop (i * 7)) HG3.out (by rw [hmin, hcs3])
    (fun j u hu => by
      rw [List.getElem?_drop] at hu
      have hlt := (List.getElem?_eq_some_iff.1 hu).1
      rw [flat_length] at hlt
      rw [add_off, blk_cell HG3.out]
      rw [← HT.out, List.getElem?_take] at hu
      rw [if_pos (by omega)] at hu
      simpa using hu)
    (by rw [hcs3, HC.out]; omega) (fun u hu => flat_one l u (List.mem_of_mem_drop hu))
  rw [hmin] at hrun3
  obtain ⟨row1, hrow1⟩ : ∃ row1, row1 = cur.toList.take ((i + 1) * 7) ++ (flat l).drop (i * 7) ++ cur.toList.drop ((i + 1) * 7 + ((flat l).drop (i * 7)).length) := ⟨_, rfl⟩
  rw [← hrow1] at hrun3
  refine copy_step7 (by rfl) rfl rfl rfl (w1 := w3.setRow g row1.toArray) (v := goInt ((l.length - i : Nat) : Int)) ?_ ?_
  · simp only [Act.eval, Array.getD_eq_getD_getElem?, List.getElem?_toArray, List.getElem?_cons_succ, List.getElem?_cons_zero, Option.getD_some]
    exact hrun3
  refine hK.out _ _ trivial (fun _ => ?_)
  refine done_ (by kernel_rfl) ?_
  have hrl : row1.length = c * 7 := by
    rw [hrow1, List.length_append, List.length_append, hcs3, List.length_take, List.length_drop, Array.length_toList, HC.out]; have := HI.out; have := HLC.out; omega
  have hbg : bv < w3.heap.size := blk_lt HV3.out
  have hbn : bv ≠ g := HNE.out
  obtain ⟨w4, hw4⟩ : ∃ w4, w4 = w3.setRow g row1.toArray := ⟨_, rfl⟩
  rw [← hw4]
  have hg4 : w4.heap[g]? = some (.cells row1.toArray 183 (0, 0)) := by rw [hw4]; exact setRow_heap w3 g cur _ 183 _ HG3.out
  have hv4 : w4.heap[bv]? = some (.cells (cellsP p).toArray 183 (0, 0)) := by rw [hw4, setRow_other _ _ _ _ hbn]; exact HV3.out
  have hb4 : W.grownBy w4 (some g) := by rw [hw4]; exact World.grownBy.trans HB3.out (grown_setRow w3 g _)
  have hmin1 : Nat.min 1 (l.length + 1 - i) = 1 := Nat.min_eq_left (by have := HI.out; omega)
  have hrun4 := run_copy7 w4 3 g (i * 7) (l.length + 1 - i) (c - i) ⟨bv, 0, none⟩ 1 1 row1.toArray 183 (cellsP p) hg4 (by rw [hmin1]; rfl)
    (fun j u hu => by rw [add_plain, blk_cell hv4 j]; simpa using hu) (by rw [List.size_toArray, hrl, cellsP_length]; have := HI.out; have := HLC.out; omega) (fun u hu => flat_one [p] u (by simpa [flat] using hu))
  rw [hmin1] at hrun4
  obtain ⟨row2, hrow2⟩ : ∃ row2, row2 = row1.toArray.toList.take (i * 7) ++ cellsP p ++ row1.toArray.toList.drop (i * 7 + (cellsP p).length) := ⟨_, rfl⟩
  rw [← hrow2] at hrun4
  obtain ⟨w5, hw5⟩ : ∃ w5, w5 = w4.setRow g row2.toArray := ⟨_, rfl⟩
  rw [← hw5] at hrun4
  have HRUN4 := Aside0.mk hrun4
  have HG5 := Aside0.mk (show w5.heap[g]? = some (.cells row2.toArray 183 (0, 0)) by rw [hw5]; exact setRow_heap w4 g _ _ 183 _ hg4)
  have HB5 := Aside0.mk (show W.grownBy w5 (some g) by rw [hw5]; exact World.grownBy.trans hb4 (grown_setRow w4 g _))
  have HR1 := Aside0.mk hrow1
  have HR2 := Aside0.mk hrow2
  have HRL := Aside0.mk hrl
  have HC3 := Aside0.mk hcs3
  have r6 : i ≤ l.length + 1 := by have := HI.out; omega
  have r7 : ¬ c = i := by have := HI.out; have := HLC.out; omega
  clear hcs3 hrl hmin hrun3 hrow1 hrow2 hw4 hw5 hg4 hv4 hb4 hrun4 hmin1 hbg hbn
  go_wp2_with (((with_reducible refine gate_dst (N := 82) rfl ?_); refine copy_event rfl rfl rfl rfl HRUN4.out ?_))
  go_ret
  have hil := HI.out
  have hlc := HLC.out
  refine ⟨_, rfl, R_of_flat ?_, HB5.out, Nat.le_trans HBS.out HB5.out.size⟩
  have hll : (l.take i ++ p :: l.drop i).length = l.length + 1 := by simp; omega
  rw [hll]
  have hff : flat (l.take i ++ p :: l.drop i) = (flat l).take (i * 7) ++ (cellsP p ++ (flat l).drop (i * 7)) := by
    rw [flat_append, flat_take]
    show _ ++ (cellsP p ++ flat (l.drop i)) = _
    rw [flat_drop]
  refine ⟨by rw [flat_length, hll], .inr ⟨g, c, row2.toArray, rfl, HBG.out, HG5.out, hlc, HCM.out, ?_, ?_⟩⟩
  · rw [HR2.out, List.size_toArray, List.length_append, List.length_append, List.length_take, List.length_drop, cellsP_length]
    show min (i * 7) row1.length + 7 + (row1.length - (i * 7 + 7)) = _
    rw [HRL.out]; omega
  · rw [hff, HR2.out]
    show List.take _ (row1.take (i * 7) ++ cellsP p ++ row1.drop (i * 7 + (cellsP p).length)) = _
    have h1 : row1.take (i * 7) = (flat l).take (i * 7) := by
      rw [HR1.out, List.append_assoc, List.take_append_of_le_length (by rw [List.length_take, Array.length_toList, HC.out]; omega), List.take_take, Nat.min_eq_left (by omega), ← HT.out, List.take_take, Nat.min_eq_left (by omega)]
    have h2 : row1.drop (i * 7 + (cellsP p).length) = (flat l).drop (i * 7) ++ cur.toList.drop ((i + 1) * 7 + ((flat l).drop (i * 7)).length) := by
      rw [HR1.out, List.append_assoc]
      have h3 : i * 7 + (cellsP p).length = (cur.toList.take ((i + 1) * 7)).length := by rw [List.length_take, Array.length_toList (xs := cur), HC.out]; show i * 7 + 7 = _; omega
      rw [h3]
      exact List.drop_left
    rw [h1, h2, List.append_assoc, ← List.append_assoc (cellsP p), ← List.append_assoc]
    rw [show (l.length + 1) * 7 = ((flat l).take (i * 7) ++ (cellsP p ++ (flat l).drop (i * 7))).length by rw [List.length_append, List.length_append, List.length_take, List.length_drop, flat_length, cellsP_length]; omega]
    exact List.take_left
theorem insert_calls (W : World) (base : Nat) (v : Value) (l : List S183) (i : Nat) (p : S183) (bv : Nat) (hR : Kd.R k183 183 W base (fun _ => True) v l) (hi : i ≤ l.length) (hv : W.heap[bv]? = some (.cells (cellsP p).toArray 183 (0, 0)))
    (hne : v.ownBlock ≠ some bv) (hsz : l.length ≤ 1000000) (hb : base ≤ W.heap.size) :
    Calls Tryz.prog 140 #[v, .int .i64 (i : Nat), .slice (some ⟨bv, 0, none⟩) 1 1] W (InsPost W base v (l.take i ++ p :: l.drop i)) := by
  by_cases he : i = l.length
  · subst he
    rw [List.take_length, List.drop_length]
    exact insert_end W base v l p bv hR hv hsz hb
  · obtain ⟨g, c, cur, rfl, hbg, hg, hlc, hcm, hcs, htake⟩ := own_cells (flat_of_R hR) (by omega)
    by_cases hc : c < l.length + 1
    · exact insert_grow W base g c cur l i p bv hg hcs htake hbg (by omega) hlc hc hv hsz hb
    · exact insert_room W base g c cur l i p bv hg hcs htake hbg (by omega) (by omega) hcm hv (fun e => hne (by rw [e]; rfl)) hsz hb
end Go.Proofs.YthhmfeiefbnhcaaGreat.Due
namespace Go.Proofs.YthhmfeiefbnhcaaGreat.Due
open Go.RowKit Go.Proofs.YthhmfeiefbnhcaaGreat.PDueParts Go.Proofs.YthhmfeiefbnhcaaGreatW.PrintWords Go.Proofs.YthhmfeiefbnhcaaGreatW.PrintLast
set_option linter.unusedVariables false
set_option linter.unusedSimpArgs false
def KeepM (ob : Nat) (W w' : World) : Prop := W.heap.size ≤ w'.heap.size ∧ ∀ k o, W.heap[k]? = some o → k ≠ ob → (∀ cs fr, o ≠ .cells cs 183 fr) → w'.heap[k]? = some o
theorem KeepM.trans {ob : Nat} {a b c : World} (h : KeepM ob a b) (g : KeepM ob b c) : KeepM ob a c := ⟨Nat.le_trans h.1 g.1, fun k o ho hk hc => g.2 k o (h.2 k o ho hk hc) hk hc⟩
theorem KeepM.of_below {ob : Nat} {W w' : World} (h : Below W.heap.size W w') : KeepM ob W w' := ⟨h.size, fun k o ho _ _ => (h.block k (Array.getElem?_eq_some_iff.1 ho).1).trans ho⟩
theorem KeepM.of_grown {ob : Nat} {W w' : World} {row : Option Nat} (h : W.grownBy w' row) (hr : ∀ k, row = some k → k = ob ∨ ∃ cs fr, W.heap[k]? = some (.cells cs 183 fr)) : KeepM ob W w' :=
  ⟨h.size, fun k o ho hk hc => (h.block k (Array.getElem?_eq_some_iff.1 ho).1 (fun e => by
    rcases hr k e.symm with h1 | ⟨cs, fr, h1⟩
    · exact hk h1
    · rw [h1] at ho; cases ho; exact hc _ _ rfl)).trans ho⟩
theorem KeepM.setCell {ob : Nat} {W : World} (v : Value) : KeepM ob W (W.setCell ⟨ob, 0, none⟩ v) :=
  KeepM.of_grown (grownBy_setCell' W ob v) (fun k e => .inl (by cases e; rfl))
theorem MapOwn.row_of {w : World} {base ob : Nat} {l : List S183} {v : Value} {fr : Nat × Nat} (h : MapOwn w base ob l) (hv : w.heap[ob]? = some (.cells #[v] 178 fr)) : Kd.R k183 183 w base (fun _ => True) v l := by
  obtain ⟨v', hv', hR⟩ := h.own
  rw [hv'] at hv
  cases hv
  exact hR
def insAt (l : List S183) (k : Int) (x : S43) : List S183 := l.take (below l k) ++ ⟨k, x⟩ :: l.drop (below l k)
theorem insAt_length (l : List S183) (k : Int) (x : S43) : (insAt l k x).length = l.length + 1 := by
  have := below_le l k
  simp [insAt]; omega
set_option maxRecDepth 100000 in
set_option maxHeartbeats 2000000 in
theorem oput_calls (W : World) (base ob : Nat) (l : List S183) (k : Int) (x : S43) (hm : MapOwn W base ob l) (hr : Rising l) (hk : hasKey l k = false) (hsz : l.length ≤ 1000000) (hb : base ≤ W.heap.size) :
    Calls Tryz.prog 105 #[.pointer (some ⟨ob, 0, none⟩), .int .i64 k, .agg #[.int .i64 x.f0.f0, .int .i64 x.f0.f1, .int .i64 x.f1, .int .i64 x.f2, .int .i64 x.f3, .bool x.f4]] W fun e w' =>
      e = .returned (.bool true) ∧ MapOwn w' base ob (insAt l k x) ∧ KeepM ob W w' ∧ Below base W w' := by
  obtain ⟨v, hv, hR⟩ := hm.own
  obtain ⟨A, c, rfl, hle, hC⟩ := Kd.R_reads hR
  have HM := Aside0.mk hm
  have KM := Aside0.mk hv
  have HR := Aside0.mk hr
  have HK := Aside0.mk hk
  have HBS := Aside0.mk hb
  have HB := Aside0.mk (Below.refl W.heap.size W)
  have HMA := Aside0.mk (⟨hv, hC, hle⟩ : MapAt W ob A c l)
  clear hm hv hr hk hR hC hb
  go_enter Tryz.func105, Tryz.ntmps105
  go_wp2_with (first
    | ((with_reducible refine gate_dst (N := 5) rfl ?_); refine box_event ?hg (N := 5) ?hd (cs := #[.int .i64 x.f0.f0, .int .i64 x.f0.f1, .int .i64 x.f1, .int .i64 x.f2, .int .i64 x.f3, .bool x.f4]) (t := 43) ?hr ?_; (case hd => rfl); (case hg => rfl); (case hr => first | (go_simp; done) | (go_simp; rfl)); intro b5 hb5 w1 Kb5 hb_; replace HB := Aside0.mk (below_step HB.out hb_); have Gb5 := Aside0.mk (by rw [hb5]; exact Nat.le_refl _ : W.heap.size ≤ b5); clear hb5; replace KM := Aside0.mk ((hb_.block _ (blk_lt KM.out)).trans KM.out); replace HM := Aside0.mk (HM.out.below hb_); replace HMA := Aside0.mk (HMA.out.below hb_); clear hb_; replace Kb5 := Aside0.mk Kb5)
    | (go_at_call 101; refine (place_calls _ ob A c l k HMA.out HR.out (by omega)).mono ?_; rintro e w3 ⟨rfl, hb3⟩; replace HB := Aside0.mk (below_step HB.out hb3); replace KM := Aside0.mk ((hb3.block _ (blk_lt KM.out)).trans KM.out); replace HM := Aside0.mk (HM.out.below hb3); replace HMA := Aside0.mk (HMA.out.below hb3); replace Kb5 := Aside0.mk ((hb3.block _ (blk_lt Kb5.out)).trans Kb5.out); clear hb3; rw [HK.out])
    | fail)
  have hbd := (Below.refl w3.heap.size w3).drew
  replace HB := Aside0.mk (below_step HB.out hbd); replace KM := Aside0.mk ((hbd.block _ (blk_lt KM.out)).trans KM.out); replace Kb5 := Aside0.mk ((hbd.block _ (blk_lt Kb5.out)).trans Kb5.out); replace HM := Aside0.mk (HM.out.below hbd); clear hbd
  refine start_ (n := 14) (S := fun w' => w'.cell? ⟨ob, 0, none⟩ = some (.slice A l.length c) ∧ w'.cell? ⟨b5, 0, none⟩ = some (.int .i64 x.f0.f0) ∧ w'.cell? ⟨b5, 1, none⟩ = some (.int .i64 x.f0.f1) ∧ w'.cell? ⟨b5, 2, none⟩ = some (.int .i64 x.f1) ∧ w'.cell? ⟨b5, 3, none⟩ = some (.int .i64 x.f2) ∧ w'.cell? ⟨b5, 4, none⟩ = some (.int .i64 x.f3) ∧ w'.cell? ⟨b5, 5, none⟩ = some (.bool x.f4)) (ds := [13]) #[false, false, false, false, false, false, false, false, false, false, false, false, false, false] (by kernel_rfl) rfl rfl ⟨(blk_cell KM.out 0).trans rfl, (blk_cell Kb5.out 0).trans rfl, (blk_cell Kb5.out 1).trans rfl, (blk_cell Kb5.out 2).trans rfl, (blk_cell Kb5.out 3).trans rfl, (blk_cell Kb5.out 4).trans rfl, (blk_cell Kb5.out 5).trans rfl⟩ ?_
  intro hHeld
  generalize hw_ : w3.drew = w4 at *
  clear hw_
  refine pure_ (i := 0) (N := some 26) (v := ?_) (a' := ?_) #[true, false, false, false, false, false, false, false, false, false, false, false, false, false] rfl rfl (by kernel_rfl) (fun _ _ _ h => h) (Or.inl ⟨by rfl, ?_⟩) ?_ ?_
  rotate_left
  · intro w'
    go_simp
    with_reducible rfl
  rotate_left
  · simp only [Act.put, List.setIfInBounds_toArray, List.set_cons_zero, List.set_cons_succ, i64_w, i32_w]
    rfl
  refine pure_ (i := 1) (N := some 27) (v := ?_) (a' := ?_) #[true, true, false, false, false, false, false, false, false, false, false, false, false, false] rfl rfl (by kernel_rfl) (fun _ _ _ h => h) (Or.inl ⟨by rfl, ?_⟩) ?_ ?_
  rotate_left
  · intro w'
    go_simp
    with_reducible rfl
  rotate_left
  · simp only [Act.put, List.setIfInBounds_toArray, List.set_cons_zero, List.set_cons_succ, i64_w, i32_w]
    rfl
  refine pure_ (i := 2) (N := some 28) (v := ?_) (a' := ?_) #[true, true, true, false, false, false, false, false, false, false, false, false, false, false] rfl rfl (by kernel_rfl) (fun _ _ _ h => h) (Or.inl ⟨by rfl, ?_⟩) ?_ ?_
  rotate_left
  · intro w'
    go_simp
    with_reducible rfl
  rotate_left
  · simp only [Act.put, List.setIfInBounds_toArray, List.set_cons_zero, List.set_cons_succ, i64_w, i32_w]
    rfl
  refine pure_ (i := 3) (N := some 29) (v := ?_) (a' := ?_) #[true, true, true, true, false, false, false, false, false, false, false, false, false, false] rfl rfl (by kernel_rfl) (fun _ _ _ h => h) (Or.inl ⟨by rfl, ?_⟩) ?_ ?_
  rotate_left
  · intro w'
    go_simp
    with_reducible rfl
  rotate_left
  · simp only [Act.put, List.setIfInBounds_toArray, List.set_cons_zero, List.set_cons_succ, i64_w, i32_w]
    rfl
  refine take_ (i := 4) (N := some 30) (v := ?_) (a' := ?_) #[true, true, true, true, true, false, false, false, false, false, false, false, false, false] rfl rfl (by kernel_rfl) (fun _ _ _ h => h) (Or.inl ⟨by rfl, ?_⟩) hHeld ?_ ?_
  rotate_left
  · rintro w' ⟨s0, s1, s2, s3, s4, s5, s6⟩
    go_simp
    with_reducible rfl
  rotate_left
  · simp only [Act.put, List.setIfInBounds_toArray, List.set_cons_zero, List.set_cons_succ, i64_w, i32_w]
    rfl
  refine pure_ (i := 5) (N := some 31) (v := ?_) (a' := ?_) #[true, true, true, true, true, true, false, false, false, false, false, false, false, false] rfl rfl (by kernel_rfl) (fun _ _ _ h => h) (Or.inl ⟨by rfl, ?_⟩) ?_ ?_
  rotate_left
  · intro w'
    go_simp
    with_reducible rfl
  rotate_left
  · simp only [Act.put, List.setIfInBounds_toArray, List.set_cons_zero, List.set_cons_succ, i64_w, i32_w]
    rfl
  refine pure_ (i := 6) (N := some 32) (v := ?_) (a' := ?_) #[true, true, true, true, true, true, true, false, false, false, false, false, false, false] rfl rfl (by kernel_rfl) (fun _ _ _ h => h) (Or.inl ⟨by rfl, ?_⟩) ?_ ?_
  rotate_left
  · intro w'
    go_simp
    with_reducible rfl
  rotate_left
  · simp only [Act.put, List.setIfInBounds_toArray, List.set_cons_zero, List.set_cons_succ, i64_w, i32_w]
    rfl
  refine take_ (i := 7) (N := some 33) (v := ?_) (a' := ?_) #[true, true, true, true, true, true, true, true, false, false, false, false, false, false] rfl rfl (by kernel_rfl) (fun _ _ _ h => h) (Or.inl ⟨by rfl, ?_⟩) hHeld ?_ ?_
  rotate_left
  · rintro w' ⟨s0, s1, s2, s3, s4, s5, s6⟩
    go_simp
    with_reducible rfl
  rotate_left
  · simp only [Act.put, List.setIfInBounds_toArray, List.set_cons_zero, List.set_cons_succ, i64_w, i32_w]
    rfl
  refine pure_ (i := 8) (N := some 34) (v := ?_) (a' := ?_) #[true, true, true, true, true, true, true, true, true, false, false, false, false, false] rfl rfl (by kernel_rfl) (fun _ _ _ h => h) (Or.inl ⟨by rfl, ?_⟩) ?_ ?_
  rotate_left
  · intro w'
    go_simp
    with_reducible rfl
  rotate_left
  · simp only [Act.put, List.setIfInBounds_toArray, List.set_cons_zero, List.set_cons_succ, i64_w, i32_w]
    rfl
  refine one_ (i := 9) (N := some 35) #[true, true, true, true, true, true, true, true, true, true, false, false, false, false] rfl rfl (by kernel_rfl) (by decide) (fun K hK => ?_)
  refine event_step (v := .slice (some ⟨w4.heap.size, 0, none⟩) 1 1) (w1 := w4.alloc (.cells #[.int .i64 k, .int .i64 x.f0.f0, .int .i64 x.f0.f1, .int .i64 x.f1, .int .i64 x.f2, .int .i64 x.f3, .bool x.f4] 183)) (by rfl) (by go_simp) ?_
  have hal : Below w4.heap.size w4 (w4.alloc (.cells #[.int .i64 k, .int .i64 x.f0.f0, .int .i64 x.f0.f1, .int .i64 x.f1, .int .i64 x.f2, .int .i64 x.f3, .bool x.f4] 183)) := below_alloc (Below.refl _ _) _
  have hbv : (w4.alloc (.cells #[.int .i64 k, .int .i64 x.f0.f0, .int .i64 x.f0.f1, .int .i64 x.f1, .int .i64 x.f2, .int .i64 x.f3, .bool x.f4] 183)).heap[w4.heap.size]? = some (.cells (cellsP ⟨k, x⟩).toArray 183 (0, 0)) := blk_new w4 _
  have hon : ∀ r, (Value.slice A l.length c).ownBlock = some r → r < w4.heap.size := fun r e => by
    obtain ⟨_, ho⟩ := Kd.R_own (HM.out.row_of KM.out)
    obtain ⟨cells, hc⟩ := own_typed ho r e
    exact blk_lt hc
  obtain ⟨w5, hw5⟩ : ∃ w5, w5 = w4.alloc (.cells #[.int .i64 k, .int .i64 x.f0.f0, .int .i64 x.f0.f1, .int .i64 x.f1, .int .i64 x.f2, .int .i64 x.f3, .bool x.f4] 183) := ⟨_, rfl⟩
  rw [← hw5] at hal hbv
  rw [← hw5]
  have HBV := Aside0.mk hbv
  have HAL := Aside0.mk hal
  have HON := Aside0.mk hon
  replace HB := Aside0.mk (below_step HB.out hal); replace KM := Aside0.mk ((hal.block _ (blk_lt KM.out)).trans KM.out); replace Kb5 := Aside0.mk ((hal.block _ (blk_lt Kb5.out)).trans Kb5.out); replace HM := Aside0.mk (HM.out.below hal); clear hal
  clear hbv hon hw5
  refine hK.out _ _ ?_ (fun hHeld => ?_)
  · obtain ⟨s0, s1, s2, s3, s4, s5, s6⟩ := hHeld
    exact ⟨pw_cell_below HAL.out s0, pw_cell_below HAL.out s1, pw_cell_below HAL.out s2, pw_cell_below HAL.out s3, pw_cell_below HAL.out s4, pw_cell_below HAL.out s5, pw_cell_below HAL.out s6⟩
  refine one_ (i := 10) (N := some 36) #[true, true, true, true, true, true, true, true, true, true, true, false, false, false] rfl rfl (by kernel_rfl) (by decide) (fun K hK => ?_)
  refine goes_ Tryz.func140 (by kernel_rfl) rfl #[.slice A l.length c, .int .i64 (below l k : Nat), .slice (some ⟨w4.heap.size, 0, none⟩) 1 1] (by rfl) rfl rfl (by go_simp) ?_
  refine (insert_calls w5 base _ l (below l k) ⟨k, x⟩ w4.heap.size (HM.out.row_of KM.out) (below_le l k) HBV.out ?_ hsz (Nat.le_trans HBS.out HB.out.size)).mono ?_
  · intro e
    have := HON.out _ e
    omega
  rintro e w6 ⟨v1, rfl, hR1, hg1, hb1⟩
  refine ⟨v1, rfl, ?_⟩
  have KM6 := blk_grown KM.out hg1 (Kd.R_ne (HM.out.row_of KM.out) KM.out (by decide))
  have hrow : ∀ r, (Value.slice A l.length c).ownBlock = some r → base ≤ r ∧ ∃ cs fr, w5.heap[r]? = some (.cells cs 183 fr) := fun r e => by
    obtain ⟨_, ho⟩ := Kd.R_own (HM.out.row_of KM.out)
    obtain ⟨cells, hc⟩ := own_typed ho r e
    exact ⟨own_base ho r e, cells, _, hc⟩
  have HK6 := Aside0.mk ((KeepM.of_below (ob := ob) HB.out).trans (KeepM.of_grown hg1 (fun r e => .inr (hrow r e).2)))
  have HB6 := Aside0.mk ((Below.mono (HB.out) HBS.out).grown hg1 (Nat.le_trans HBS.out HB.out.size) (fun r e => (hrow r e).1))
  have K56 := blk_grown Kb5.out hg1 (Kd.R_ne (HM.out.row_of KM.out) Kb5.out (by decide))
  refine hK.out _ _ ⟨(blk_cell KM6 0).trans rfl, (blk_cell K56 0).trans rfl, (blk_cell K56 1).trans rfl, (blk_cell K56 2).trans rfl, (blk_cell K56 3).trans rfl, (blk_cell K56 4).trans rfl, (blk_cell K56 5).trans rfl⟩ (fun hHeld => ?_)
  have KM7 := Aside0.mk KM6
  obtain ⟨l', hl'⟩ : ∃ l', l' = insAt l k x := ⟨_, rfl⟩
  have hR6 : Kd.R k183 183 w6 base (fun _ => True) v1 l' := by rw [hl']; exact hR1
  have HR6 := Aside0.mk hR6
  have HL' := Aside0.mk hl'
  clear hR6 hl' hHeld hrow KM6 K56 hg1 hR1 hb1
  refine pure_ (i := 11) (N := some 37) (v := ?_) (a' := ?_) #[true, true, true, true, true, true, true, true, true, true, true, true, false, false] rfl rfl (by kernel_rfl) (fun _ _ _ h => h) (Or.inl ⟨by rfl, ?_⟩) ?_ ?_
  rotate_left
  · intro w'
    go_simp
    with_reducible rfl
  rotate_left
  · simp only [Act.put, List.setIfInBounds_toArray, List.set_cons_zero, List.set_cons_succ, i64_w, i32_w]
    rfl
  refine pure_ (i := 12) (N := some 38) (v := ?_) (a' := ?_) #[true, true, true, true, true, true, true, true, true, true, true, true, true, false] rfl rfl (by kernel_rfl) (fun _ _ _ h => h) (Or.inl ⟨by rfl, ?_⟩) ?_ ?_
  rotate_left
  · intro w'
    go_simp
    with_reducible rfl
  rotate_left
  · simp only [Act.put, List.setIfInBounds_toArray, List.set_cons_zero, List.set_cons_succ, i64_w, i32_w]
    rfl
  refine last_ (i := 13) (N := none) #[true, true, true, true, true, true, true, true, true, true, true, true, true, true] rfl rfl (by kernel_rfl) (by decide) (fun K hK => ?_)
  have hc7 : w6.cell? ⟨ob, 0, none⟩ = some (.slice A l.length c) := (blk_cell KM7.out 0).trans rfl
  have hf7 : w6.frozen? ⟨ob, 0, none⟩ = false := blk_frozen KM7.out 0
  obtain ⟨A1, c1, hv1⟩ := Kd.R_slice HR6.out
  subst hv1
  refine skip_step (w1 := w6.setCell ⟨ob, 0, none⟩ (.slice A1 l'.length c1)) (by rfl) (by go_simp) ?_
  refine hK.out _ _ ?_
  refine done_ (by kernel_rfl) ?_
  have G := HM.out.ge
  have n1 : MapOwn (w6.setCell ⟨ob, 0, none⟩ (.slice A1 l'.length c1)) base ob l' := MapOwn.mk_set KM7.out HR6.out G
  have n2 := HK6.out.trans (KeepM.setCell (ob := ob) (W := w6) (.slice A1 l'.length c1))
  have n3 := HB6.out.setCell (p := ⟨ob, 0, none⟩) G (.slice A1 l'.length c1)
  have N1 := Aside0.mk n1
  have N2 := Aside0.mk n2
  have N3 := Aside0.mk n3
  clear n1 n2 n3 hc7 hf7
  generalize w6.setCell ⟨ob, 0, none⟩ (.slice A1 l'.length c1) = w7 at *
  go_wp2
  go_ret
  exact ⟨rfl, HL'.out ▸ N1.out, N2.out, N3.out⟩
end Go.Proofs.YthhmfeiefbnhcaaGreat.Due
namespace Go.Proofs.YthhmfeiefbnhcaaGreat.Due
open Go.RowKit Go.Proofs.YthhmfeiefbnhcaaGreat.PDueParts Go.Proofs.YthhmfeiefbnhcaaGreatW.PrintWords Go.Proofs.YthhmfeiefbnhcaaGreatW.PrintLast
set_option linter.unusedVariables false
set_option linter.unusedSimpArgs false
section
variable {P : Program} {ops : Array Oper} {rest : List Oper} {o : Oper} {a : Act} {Q : Exit → Act → World → Prop}
theorem store_agg {W : World} (hgd : o.guard = none) (ty : TypeId) (x y : Operand) (ho : o.op = .store ty x y) (hd : o.dst = none) (g : Nat) (cells : Array Value) (t : TypeId) (old : Array Value)
    (hx : a.eval x = .pointer (some ⟨g, 0, none⟩)) (hy : a.eval y = .agg cells) (hg : W.heap[g]? = some (.cells old t (0, 0))) (hi : (P.info? ty).map (·.size) = some cells.size) (hold : old.size = cells.size) (h1 : cells.all (·.oneCell') = true)
    (h : ∀ w1, w1.heap[g]? = some (.cells cells t (0, 0)) → W.grownBy w1 (some g) → wpList P ops Q rest a w1) : wpList P ops Q (o :: rest) a W :=
  wpList_store_rowTo hgd ty x y ho hd g cells hx hy t old hg hi hold h1 (h _ (setRow_heap W g old cells t _ hg) (grown_setRow W g cells))
theorem store_one {W : World} (hgd : o.guard = none) (ty : TypeId) (x y : Operand) (ho : o.op = .store ty x y) (hd : o.dst = none) (g : Nat) (v : Value) (t : TypeId) (old : Value)
    (hx : a.eval x = .pointer (some ⟨g, 0, none⟩)) (hy : a.eval y = v) (hg : W.heap[g]? = some (.cells #[old] t (0, 0))) (hi : (P.info? ty).map (·.size) = some 1) (h1 : v.oneCell' = true)
    (h : ∀ w1, w1.heap[g]? = some (.cells #[v] t (0, 0)) → W.grownBy w1 (some g) → wpList P ops Q rest a w1) : wpList P ops Q (o :: rest) a W :=
  wpList_store_oneTo hgd ty x y ho hd g v hx hy h1 t old hg hi (h _ (setRow_heap W g _ _ t _ hg) (grown_setRow W g _))
theorem store_agg_step {W : World} {Kc : Act → World → Prop} (hw : Region.wanted o (yielded ops a.tmps) = true) (ty : TypeId) (x y : Operand) (ho : o.op = .store ty x y) (hd : o.dst = none) (g : Nat) (cells : Array Value) (t : TypeId) (old : Array Value)
    (hx : a.eval x = .pointer (some ⟨g, 0, none⟩)) (hy : a.eval y = .agg cells) (hg : W.heap[g]? = some (.cells old t (0, 0))) (hi : (P.info? ty).map (·.size) = some cells.size) (hold : old.size = cells.size) (h1 : cells.all (·.oneCell') = true)
    (h : ∀ w1, w1.heap[g]? = some (.cells cells t (0, 0)) → W.grownBy w1 (some g) → Kc a w1) : if Region.wanted o (yielded ops a.tmps) = true then Oper.wp P o a W Kc Q else Kc (a.put none undef) W := by
  rw [if_pos hw]
  refine wp_store_row ty x y ho g cells hx hy t old hg hi hold h1 ?_
  rw [hd]
  exact h _ (setRow_heap W g old cells t _ hg) (grown_setRow W g cells)
end
theorem results_tct {fn : Func} {p u v : Tmp} {ty : TypeId} (h : fn.results = #[.tmp u, .cell p ty, .tmp v]) (tmps : Array Value) (w : World) (g : Nat) (t : TypeId) (cs : Array Value) (fr : Nat × Nat) (d : TypeDesc)
    (hp : tmps.getD p undef = .pointer (some ⟨g, 0, none⟩)) (hg : w.heap[g]? = some (.cells cs t fr))
    (hd : (match d with | .struct _ | .array _ _ => true | _ => false) = true) (hu : Tryz.prog.underlying ty = some d) (hi : (Tryz.prog.info? ty).map (·.size) = some cs.size) :
    (results fn tmps).run Tryz.prog w = .ok (.tuple #[tmps.getD u undef, .agg cs, tmps.getD v undef]) w := by
  have hp' : tmps[p]?.getD undef = .pointer (some ⟨g, 0, none⟩) := by simpa using hp
  have hl := run_loadVar_row (P := Tryz.prog) w g t ty cs fr d hg hu (by cases d <;> first | rfl | cases hd) hi
  simp [results, h, hp', asAddr, hl]
theorem size43 : (Tryz.prog.info? 43).map (·.size) = some 6 := by kernel_rfl
def floorP (l : List S183) (k : Int) : Option S183 := if hasKey l k = true then l[below l k]? else if below l k = 0 then none else l[below l k - 1]?
def floorD (l : List S183) (k : Int) : S183 := (floorP l k).getD z183
def floorI (l : List S183) (k : Int) : Bool := (floorP l k).isSome
set_option maxRecDepth 100000 in
set_option maxHeartbeats 2000000 in
theorem floor_calls (W : World) (ob : Nat) (A : Option Addr) (c : Nat) (l : List S183) (k : Int) (hm : MapAt W ob A c l) (hr : Rising l) (hsz : l.length < 4611686018427387904) :
    Calls Tryz.prog 122 #[.pointer (some ⟨ob, 0, none⟩), .int .i64 k] W fun e w' => e = .returned (.tuple #[.int .i64 (floorD l k).f0, .agg #[.int .i64 (floorD l k).f1.f0.f0, .int .i64 (floorD l k).f1.f0.f1, .int .i64 (floorD l k).f1.f1, .int .i64 (floorD l k).f1.f2, .int .i64 (floorD l k).f1.f3, .bool (floorD l k).f1.f4], .bool (floorI l k)]) ∧ Below W.heap.size W w' := by
  have HM := Aside0.mk hm
  have HR := Aside0.mk hr
  have HB := Aside0.mk (Below.refl W.heap.size W)
  have hble := below_le l k
  clear hm
  by_cases hz : hasKey l k = false ∧ below l k = 0
  case pos =>
    have HK := Aside0.mk hz.1
    have HZ := Aside0.mk hz.2
    have HF := Aside0.mk (show floorP l k = none by rw [floorP, hz.1, if_neg (by decide), if_pos hz.2])
    clear hz
    go_enter Tryz.func122, Tryz.ntmps122
    go_wp2_with (first
      | ((with_reducible refine gate_dst (N := 5) rfl ?_); refine box_event ?hg (N := 5) ?hd (cs := #[.int .i64 0, .int .i64 0, .int .i64 0, .int .i64 0, .int .i64 0, .bool false]) (t := 43) ?hr ?_; (case hd => rfl); (case hg => rfl); (case hr => first | (go_simp; done) | (go_simp; rfl)); intro b5 hb5 w1 Kb5 hb_; replace HB := Aside0.mk (below_step HB.out hb_); have Gb5 := Aside0.mk (by rw [hb5]; exact Nat.le_refl _ : W.heap.size ≤ b5); clear hb5; clear hb_; replace Kb5 := Aside0.mk Kb5)
      | (go_at_call 101; refine (place_calls _ ob A c l k (HM.out.below HB.out) HR.out hsz).mono ?_; rintro e w3 ⟨rfl, hb3⟩; replace HB := Aside0.mk (below_step HB.out hb3); replace Kb5 := Aside0.mk ((hb3.block _ (blk_lt Kb5.out)).trans Kb5.out); clear hb3; rw [HK.out, HZ.out])
      | fail)
    have hbd := (Below.refl w3.heap.size w3).drew
    replace HB := Aside0.mk (below_step HB.out hbd); replace Kb5 := Aside0.mk ((hbd.block _ (blk_lt Kb5.out)).trans Kb5.out); clear hbd
    refine start_ (n := 5) (S := fun w' => w'.cell? ⟨b5, 0, none⟩ = some (.int .i64 0) ∧ w'.cell? ⟨b5, 1, none⟩ = some (.int .i64 0) ∧ w'.cell? ⟨b5, 2, none⟩ = some (.int .i64 0) ∧ w'.cell? ⟨b5, 3, none⟩ = some (.int .i64 0) ∧ w'.cell? ⟨b5, 4, none⟩ = some (.int .i64 0) ∧ w'.cell? ⟨b5, 5, none⟩ = some (.bool false)) (ds := [3]) #[false, false, false, false, false] (by kernel_rfl) rfl rfl ⟨(blk_cell Kb5.out 0).trans rfl, (blk_cell Kb5.out 1).trans rfl, (blk_cell Kb5.out 2).trans rfl, (blk_cell Kb5.out 3).trans rfl, (blk_cell Kb5.out 4).trans rfl, (blk_cell Kb5.out 5).trans rfl⟩ ?_
    intro hHeld
    generalize hw_ : w3.drew = w4 at *
    clear hw_
    refine pure_ (i := 0) (N := some 24) (v := ?_) (a' := ?_) #[true, false, false, false, false] rfl rfl (by kernel_rfl) (fun _ _ _ h => h) (Or.inl ⟨by rfl, ?_⟩) ?_ ?_
    rotate_left
    · intro w'
      go_simp
      with_reducible rfl
    rotate_left
    · simp only [Act.put, List.setIfInBounds_toArray, List.set_cons_zero, List.set_cons_succ, i64_w, i32_w]
      rfl
    refine take_ (i := 1) (N := some 25) (v := ?_) (a' := ?_) #[true, true, false, false, false] rfl rfl (by kernel_rfl) (fun _ _ _ h => h) (Or.inl ⟨by rfl, ?_⟩) hHeld ?_ ?_
    rotate_left
    · rintro w' ⟨s0, s1, s2, s3, s4, s5⟩
      go_simp
      with_reducible rfl
    rotate_left
    · simp only [Act.put, List.setIfInBounds_toArray, List.set_cons_zero, List.set_cons_succ, i64_w, i32_w]
      rfl
    refine pure_ (i := 2) (N := some 4) (v := ?_) (a' := ?_) #[true, true, true, false, false] rfl rfl (by kernel_rfl) (fun _ _ _ h => h) (Or.inl ⟨by rfl, ?_⟩) ?_ ?_
    rotate_left
    · intro w'
      go_simp
      with_reducible rfl
    rotate_left
    · simp only [Act.put, List.setIfInBounds_toArray, List.set_cons_zero, List.set_cons_succ, i64_w, i32_w]
      rfl
    refine last_ (i := 3) (N := none) #[true, true, true, true, false] rfl rfl (by kernel_rfl) (by decide) (fun K hK => ?_)
    refine store_agg_step (by rfl) 43 (.tmp 5) (.tmp 25) rfl rfl b5 #[.int .i64 0, .int .i64 0, .int .i64 0, .int .i64 0, .int .i64 0, .bool false] 43 _ rfl rfl Kb5.out size43 rfl (by simp [Value.oneCell']) ?_
    intro w5 k5 g5
    refine hK.out _ _ ?_
    refine pure_ (i := 4) (N := some 6) (v := ?_) (a' := ?_) #[true, true, true, true, true] rfl rfl (by kernel_rfl) (fun _ _ _ h => h) (Or.inl ⟨by rfl, ?_⟩) ?_ ?_
    rotate_left
    · intro w'
      go_simp
      with_reducible rfl
    rotate_left
    · simp only [Act.put, List.setIfInBounds_toArray, List.set_cons_zero, List.set_cons_succ, i64_w, i32_w]
      rfl
    refine done_ (by kernel_rfl) ?_
    have Kb := Aside0.mk k5
    have HB' := Aside0.mk (HB.out.grown g5 HB.out.size (fun r e => by cases e; exact Gb5.out))
    clear k5 g5
    go_wp2
    (try simp only [Exit.inBlock, Exit.then])
    refine bodyPost_ret (results_tct rfl _ _ b5 43 _ (0, 0) _ rfl Kb.out rfl Tryz.underlying43 size43) rfl ?_
    exact ⟨by rw [floorD, floorI, HF.out]; rfl, HB'.out⟩
  case neg =>
    by_cases hk : hasKey l k = true
    · have hlt := ((hasKey_iff hr k).1 hk).1
      have HF := Aside0.mk (show floorP l k = some (rd_T183 l ((below l k : Nat) : Int)) by rw [floorP, if_pos hk, rd_T183, Int.toNat_natCast, List.getD_eq_getElem?_getD, List.getElem?_eq_getElem hlt]; rfl)
      have HK := Aside0.mk hk
      obtain ⟨ad, hA, h0, h1, h2, h3, h4, h5, h6⟩ := at_T183 HM.out.rd ((below l k : Nat) : Int) (by omega) (by omega)
      subst hA
      have q0 : (0 : Int) ≤ ((below l k : Nat) : Int) := by omega
      have q1 : ((below l k : Nat) : Int) < (l.length : Int) := by omega
      clear hz hk hlt hr
      go_enter Tryz.func122, Tryz.ntmps122
      go_wp2_with (first
        | ((with_reducible refine gate_dst (N := 5) rfl ?_); refine box_event ?hg (N := 5) ?hd (cs := #[.int .i64 0, .int .i64 0, .int .i64 0, .int .i64 0, .int .i64 0, .bool false]) (t := 43) ?hr ?_; (case hd => rfl); (case hg => rfl); (case hr => first | (go_simp; done) | (go_simp; rfl)); intro b5 hb5 w1 Kb5 hb_; replace HB := Aside0.mk (below_step HB.out hb_); have Gb5 := Aside0.mk (by rw [hb5]; exact Nat.le_refl _ : W.heap.size ≤ b5); clear hb5; clear hb_; replace Kb5 := Aside0.mk Kb5)
        | (go_at_call 101; refine (place_calls _ ob _ c l k (HM.out.below HB.out) HR.out hsz).mono ?_; rintro e w3 ⟨rfl, hb3⟩; replace HB := Aside0.mk (below_step HB.out hb3); replace Kb5 := Aside0.mk ((hb3.block _ (blk_lt Kb5.out)).trans Kb5.out); clear hb3; rw [HK.out])
        | fail)
      have hob : w3.drew.cell? ⟨ob, 0, none⟩ = some (.slice (some ad) l.length c) := pw_cell_below (HB.out.drew) (blk_cell HM.out.blk 0)
      rw [Int.toNat_natCast] at h0 h1 h2 h3 h4 h5 h6
      have e0 := pw_cell_below (HB.out.drew) h0
      have e1 := pw_cell_below (HB.out.drew) h1
      have e2 := pw_cell_below (HB.out.drew) h2
      have e3 := pw_cell_below (HB.out.drew) h3
      have e4 := pw_cell_below (HB.out.drew) h4
      have e5 := pw_cell_below (HB.out.drew) h5
      have e6 := pw_cell_below (HB.out.drew) h6
      replace Kb5 := Aside0.mk (show w3.drew.heap[b5]? = some (.cells #[.int .i64 0, .int .i64 0, .int .i64 0, .int .i64 0, .int .i64 0, .bool false] 43 (0, 0)) from Kb5.out)
      replace HB := Aside0.mk (HB.out.drew)
      refine start_ (n := 19) (S := fun w' => w'.cell? ⟨ob, 0, none⟩ = some (.slice (some ad) l.length c) ∧ w'.cell? (ad.add (below l k * 7)) = some (.int .i64 (rd_T183 l (((below l k : Nat) : Int))).f0) ∧ w'.cell? ⟨(ad.add (below l k * 7)).block, (ad.add (below l k * 7)).off + 1, none⟩ = some (.int .i64 (rd_T183 l (((below l k : Nat) : Int))).f1.f0.f0) ∧ w'.cell? ⟨(ad.add (below l k * 7)).block, (ad.add (below l k * 7)).off + 1 + 1, none⟩ = some (.int .i64 (rd_T183 l (((below l k : Nat) : Int))).f1.f0.f1) ∧ w'.cell? ⟨(ad.add (below l k * 7)).block, (ad.add (below l k * 7)).off + 1 + 2, none⟩ = some (.int .i64 (rd_T183 l (((below l k : Nat) : Int))).f1.f1) ∧ w'.cell? ⟨(ad.add (below l k * 7)).block, (ad.add (below l k * 7)).off + 1 + 3, none⟩ = some (.int .i64 (rd_T183 l (((below l k : Nat) : Int))).f1.f2) ∧ w'.cell? ⟨(ad.add (below l k * 7)).block, (ad.add (below l k * 7)).off + 1 + 4, none⟩ = some (.int .i64 (rd_T183 l (((below l k : Nat) : Int))).f1.f3) ∧ w'.cell? ⟨(ad.add (below l k * 7)).block, (ad.add (below l k * 7)).off + 1 + 5, none⟩ = some (.bool (rd_T183 l (((below l k : Nat) : Int))).f1.f4)) (ds := [17]) #[false, false, false, false, false, false, false, false, false, false, false, false, false, false, false, false, false, false, false] (by kernel_rfl) rfl rfl ⟨hob, e0, e1, e2, e3, e4, e5, e6⟩ ?_
      intro hHeld
      clear hob e0 e1 e2 e3 e4 e5 e6 h0 h1 h2 h3 h4 h5 h6
      generalize w3.drew = w4 at *
      refine pure_ (i := 0) (N := some 26) (v := ?_) (a' := ?_) #[true, false, false, false, false, false, false, false, false, false, false, false, false, false, false, false, false, false, false] rfl rfl (by kernel_rfl) (fun _ _ _ h => h) (Or.inl ⟨by rfl, ?_⟩) ?_ ?_
      rotate_left
      · intro w'
        go_simp
        with_reducible rfl
      rotate_left
      · simp only [Act.put, List.setIfInBounds_toArray, List.set_cons_zero, List.set_cons_succ, i64_w, i32_w]
        rfl
      refine pure_ (i := 1) (N := some 27) (v := ?_) (a' := ?_) #[true, true, false, false, false, false, false, false, false, false, false, false, false, false, false, false, false, false, false] rfl rfl (by kernel_rfl) (fun _ _ _ h => h) (Or.inl ⟨by rfl, ?_⟩) ?_ ?_
      rotate_left
      · intro w'
        go_simp
        with_reducible rfl
      rotate_left
      · simp only [Act.put, List.setIfInBounds_toArray, List.set_cons_zero, List.set_cons_succ, i64_w, i32_w]
        rfl
      refine pure_ (i := 2) (N := some 28) (v := ?_) (a' := ?_) #[true, true, true, false, false, false, false, false, false, false, false, false, false, false, false, false, false, false, false] rfl rfl (by kernel_rfl) (fun _ _ _ h => h) (Or.inl ⟨by rfl, ?_⟩) ?_ ?_
      rotate_left
      · intro w'
        go_simp
        with_reducible rfl
      rotate_left
      · simp only [Act.put, List.setIfInBounds_toArray, List.set_cons_zero, List.set_cons_succ, i64_w, i32_w]
        rfl
      refine take_ (i := 3) (N := some 29) (v := ?_) (a' := ?_) #[true, true, true, true, false, false, false, false, false, false, false, false, false, false, false, false, false, false, false] rfl rfl (by kernel_rfl) (fun _ _ _ h => h) (Or.inl ⟨by rfl, ?_⟩) hHeld ?_ ?_
      rotate_left
      · rintro w' ⟨s0, s1, s2, s3, s4, s5, s6, s7⟩
        go_simp
        with_reducible rfl
      rotate_left
      · simp only [Act.put, List.setIfInBounds_toArray, List.set_cons_zero, List.set_cons_succ, i64_w, i32_w]
        rfl
      refine pure_ (i := 4) (N := some 30) (v := ?_) (a' := ?_) #[true, true, true, true, true, false, false, false, false, false, false, false, false, false, false, false, false, false, false] rfl rfl (by kernel_rfl) (fun _ _ _ h => h) (Or.inl ⟨by rfl, ?_⟩) ?_ ?_
      rotate_left
      · intro w'
        go_simp
        with_reducible rfl
      rotate_left
      · simp only [Act.put, List.setIfInBounds_toArray, List.set_cons_zero, List.set_cons_succ, i64_w, i32_w]
        rfl
      refine pure_ (i := 5) (N := some 31) (v := ?_) (a' := ?_) #[true, true, true, true, true, true, false, false, false, false, false, false, false, false, false, false, false, false, false] rfl rfl (by kernel_rfl) (fun _ _ _ h => h) (Or.inl ⟨by rfl, ?_⟩) ?_ ?_
      rotate_left
      · intro w'
        go_simp
        with_reducible rfl
      rotate_left
      · simp only [Act.put, List.setIfInBounds_toArray, List.set_cons_zero, List.set_cons_succ, i64_w, i32_w]
        rfl
      refine pure_ (i := 6) (N := some 32) (v := ?_) (a' := ?_) #[true, true, true, true, true, true, true, false, false, false, false, false, false, false, false, false, false, false, false] rfl rfl (by kernel_rfl) (fun _ _ _ h => h) (Or.inl ⟨by rfl, ?_⟩) ?_ ?_
      rotate_left
      · intro w'
        go_simp
        with_reducible rfl
      rotate_left
      · simp only [Act.put, List.setIfInBounds_toArray, List.set_cons_zero, List.set_cons_succ, i64_w, i32_w]
        rfl
      refine take_ (i := 7) (N := some 33) (v := ?_) (a' := ?_) #[true, true, true, true, true, true, true, true, false, false, false, false, false, false, false, false, false, false, false] rfl rfl (by kernel_rfl) (fun _ _ _ h => h) (Or.inl ⟨by rfl, ?_⟩) hHeld ?_ ?_
      rotate_left
      · rintro w' ⟨s0, s1, s2, s3, s4, s5, s6, s7⟩
        go_simp
        with_reducible rfl
      rotate_left
      · simp only [Act.put, List.setIfInBounds_toArray, List.set_cons_zero, List.set_cons_succ, i64_w, i32_w]
        rfl
      refine pure_ (i := 8) (N := some 34) (v := ?_) (a' := ?_) #[true, true, true, true, true, true, true, true, true, false, false, false, false, false, false, false, false, false, false] rfl rfl (by kernel_rfl) (fun _ _ _ h => h) (Or.inl ⟨by rfl, ?_⟩) ?_ ?_
      rotate_left
      · intro w'
        go_simp
        with_reducible rfl
      rotate_left
      · simp only [Act.put, List.setIfInBounds_toArray, List.set_cons_zero, List.set_cons_succ, i64_w, i32_w]
        rfl
      refine pure_ (i := 9) (N := some 35) (v := ?_) (a' := ?_) #[true, true, true, true, true, true, true, true, true, true, false, false, false, false, false, false, false, false, false] rfl rfl (by kernel_rfl) (fun _ _ _ h => h) (Or.inl ⟨by rfl, ?_⟩) ?_ ?_
      rotate_left
      · intro w'
        go_simp
        with_reducible rfl
      rotate_left
      · simp only [Act.put, List.setIfInBounds_toArray, List.set_cons_zero, List.set_cons_succ, i64_w, i32_w]
        rfl
      refine pure_ (i := 10) (N := some 36) (v := ?_) (a' := ?_) #[true, true, true, true, true, true, true, true, true, true, true, false, false, false, false, false, false, false, false] rfl rfl (by kernel_rfl) (fun _ _ _ h => h) (Or.inl ⟨by rfl, ?_⟩) ?_ ?_
      rotate_left
      · intro w'
        go_simp
        with_reducible rfl
      rotate_left
      · simp only [Act.put, List.setIfInBounds_toArray, List.set_cons_zero, List.set_cons_succ, i64_w, i32_w]
        rfl
      refine take_ (i := 11) (N := some 37) (v := ?_) (a' := ?_) #[true, true, true, true, true, true, true, true, true, true, true, true, false, false, false, false, false, false, false] rfl rfl (by kernel_rfl) (fun _ _ _ h => h) (Or.inl ⟨by rfl, ?_⟩) hHeld ?_ ?_
      rotate_left
      · rintro w' ⟨s0, s1, s2, s3, s4, s5, s6, s7⟩
        go_simp
        with_reducible rfl
      rotate_left
      · simp only [Act.put, List.setIfInBounds_toArray, List.set_cons_zero, List.set_cons_succ, i64_w, i32_w]
        rfl
      refine pure_ (i := 12) (N := some 38) (v := ?_) (a' := ?_) #[true, true, true, true, true, true, true, true, true, true, true, true, true, false, false, false, false, false, false] rfl rfl (by kernel_rfl) (fun _ _ _ h => h) (Or.inl ⟨by rfl, ?_⟩) ?_ ?_
      rotate_left
      · intro w'
        go_simp
        with_reducible rfl
      rotate_left
      · simp only [Act.put, List.setIfInBounds_toArray, List.set_cons_zero, List.set_cons_succ, i64_w, i32_w]
        rfl
      refine pure_ (i := 13) (N := some 39) (v := ?_) (a' := ?_) #[true, true, true, true, true, true, true, true, true, true, true, true, true, true, false, false, false, false, false] rfl rfl (by kernel_rfl) (fun _ _ _ h => h) (Or.inl ⟨by rfl, ?_⟩) ?_ ?_
      rotate_left
      · intro w'
        go_simp
        with_reducible rfl
      rotate_left
      · simp only [Act.put, List.setIfInBounds_toArray, List.set_cons_zero, List.set_cons_succ, i64_w, i32_w]
        rfl
      refine pure_ (i := 14) (N := some 40) (v := ?_) (a' := ?_) #[true, true, true, true, true, true, true, true, true, true, true, true, true, true, true, false, false, false, false] rfl rfl (by kernel_rfl) (fun _ _ _ h => h) (Or.inl ⟨by rfl, ?_⟩) ?_ ?_
      rotate_left
      · intro w'
        go_simp
        with_reducible rfl
      rotate_left
      · simp only [Act.put, List.setIfInBounds_toArray, List.set_cons_zero, List.set_cons_succ, i64_w, i32_w]
        rfl
      refine take_ (i := 15) (N := some 41) (v := ?_) (a' := ?_) #[true, true, true, true, true, true, true, true, true, true, true, true, true, true, true, true, false, false, false] rfl rfl (by kernel_rfl) (fun _ _ _ h => h) (Or.inl ⟨by rfl, ?_⟩) hHeld ?_ ?_
      rotate_left
      · rintro w' ⟨s0, s1, s2, s3, s4, s5, s6, s7⟩
        go_simp
        with_reducible rfl
      rotate_left
      · simp only [Act.put, List.setIfInBounds_toArray, List.set_cons_zero, List.set_cons_succ, i64_w, i32_w]
        rfl
      refine pure_ (i := 16) (N := some 4) (v := ?_) (a' := ?_) #[true, true, true, true, true, true, true, true, true, true, true, true, true, true, true, true, true, false, false] rfl rfl (by kernel_rfl) (fun _ _ _ h => h) (Or.inl ⟨by rfl, ?_⟩) ?_ ?_
      rotate_left
      · intro w'
        go_simp
        with_reducible rfl
      rotate_left
      · simp only [Act.put, List.setIfInBounds_toArray, List.set_cons_zero, List.set_cons_succ, i64_w, i32_w]
        rfl
      refine last_ (i := 17) (N := none) #[true, true, true, true, true, true, true, true, true, true, true, true, true, true, true, true, true, true, false] rfl rfl (by kernel_rfl) (by decide) (fun K hK => ?_)
      refine store_agg_step (by rfl) 43 (.tmp 5) (.tmp 41) rfl rfl b5 #[.int .i64 (rd_T183 l (((below l k : Nat) : Int))).f1.f0.f0, .int .i64 (rd_T183 l (((below l k : Nat) : Int))).f1.f0.f1, .int .i64 (rd_T183 l (((below l k : Nat) : Int))).f1.f1, .int .i64 (rd_T183 l (((below l k : Nat) : Int))).f1.f2, .int .i64 (rd_T183 l (((below l k : Nat) : Int))).f1.f3, .bool (rd_T183 l (((below l k : Nat) : Int))).f1.f4] 43 _ rfl rfl Kb5.out size43 rfl (by simp [Value.oneCell']) ?_
      intro w5 k5 g5
      refine hK.out _ _ ?_
      refine pure_ (i := 18) (N := some 6) (v := ?_) (a' := ?_) #[true, true, true, true, true, true, true, true, true, true, true, true, true, true, true, true, true, true, true] rfl rfl (by kernel_rfl) (fun _ _ _ h => h) (Or.inl ⟨by rfl, ?_⟩) ?_ ?_
      rotate_left
      · intro w'
        go_simp
        with_reducible rfl
      rotate_left
      · simp only [Act.put, List.setIfInBounds_toArray, List.set_cons_zero, List.set_cons_succ, i64_w, i32_w]
        rfl
      refine done_ (by kernel_rfl) ?_
      have Kb := Aside0.mk k5
      have HB' := Aside0.mk (HB.out.grown g5 HB.out.size (fun r e => by cases e; exact Gb5.out))
      clear k5 g5 hHeld
      go_wp2
      (try simp only [Exit.inBlock, Exit.then])
      refine bodyPost_ret (results_tct rfl _ _ b5 43 _ (0, 0) _ rfl Kb.out rfl Tryz.underlying43 size43) rfl ?_
      exact ⟨by rw [floorD, floorI, HF.out]; rfl, HB'.out⟩
    · have hk' : hasKey l k = false := by simpa using hk
      have hb0 : below l k ≠ 0 := fun e => hz ⟨hk', e⟩
      have HF := Aside0.mk (show floorP l k = some (rd_T183 l (((below l k : Nat) : Int) - 1)) by rw [floorP, if_neg hk, if_neg hb0, rd_T183, show (((below l k : Nat) : Int) - 1).toNat = below l k - 1 by omega, List.getD_eq_getElem?_getD, List.getElem?_eq_getElem (by omega)]; rfl)
      have HK := Aside0.mk hk'
      obtain ⟨ad, hA, h0, h1, h2, h3, h4, h5, h6⟩ := at_T183 HM.out.rd (((below l k : Nat) : Int) - 1) (by omega) (by omega)
      subst hA
      have q0 : (1 : Int) ≤ ((below l k : Nat) : Int) := by omega
      have q1 : ((below l k : Nat) : Int) - 1 < (l.length : Int) := by omega
      have q2 : wrap64 (((below l k : Nat) : Int) - 1) = ((below l k : Nat) : Int) - 1 := by unfold wrap64; omega
      clear hz hk hk' hr hb0
      go_enter Tryz.func122, Tryz.ntmps122
      go_wp2_with (first
        | ((with_reducible refine gate_dst (N := 5) rfl ?_); refine box_event ?hg (N := 5) ?hd (cs := #[.int .i64 0, .int .i64 0, .int .i64 0, .int .i64 0, .int .i64 0, .bool false]) (t := 43) ?hr ?_; (case hd => rfl); (case hg => rfl); (case hr => first | (go_simp; done) | (go_simp; rfl)); intro b5 hb5 w1 Kb5 hb_; replace HB := Aside0.mk (below_step HB.out hb_); have Gb5 := Aside0.mk (by rw [hb5]; exact Nat.le_refl _ : W.heap.size ≤ b5); clear hb5; clear hb_; replace Kb5 := Aside0.mk Kb5)
        | (go_at_call 101; refine (place_calls _ ob _ c l k (HM.out.below HB.out) HR.out hsz).mono ?_; rintro e w3 ⟨rfl, hb3⟩; replace HB := Aside0.mk (below_step HB.out hb3); replace Kb5 := Aside0.mk ((hb3.block _ (blk_lt Kb5.out)).trans Kb5.out); clear hb3; rw [HK.out])
        | fail)
      have hob : w3.drew.cell? ⟨ob, 0, none⟩ = some (.slice (some ad) l.length c) := pw_cell_below (HB.out.drew) (blk_cell HM.out.blk 0)
      rw [show (((below l k : Nat) : Int) - 1).toNat = (below l k - 1) by omega] at h0 h1 h2 h3 h4 h5 h6
      have e0 := pw_cell_below (HB.out.drew) h0
      have e1 := pw_cell_below (HB.out.drew) h1
      have e2 := pw_cell_below (HB.out.drew) h2
      have e3 := pw_cell_below (HB.out.drew) h3
      have e4 := pw_cell_below (HB.out.drew) h4
      have e5 := pw_cell_below (HB.out.drew) h5
      have e6 := pw_cell_below (HB.out.drew) h6
      replace Kb5 := Aside0.mk (show w3.drew.heap[b5]? = some (.cells #[.int .i64 0, .int .i64 0, .int .i64 0, .int .i64 0, .int .i64 0, .bool false] 43 (0, 0)) from Kb5.out)
      replace HB := Aside0.mk (HB.out.drew)
      refine start_ (n := 19) (S := fun w' => w'.cell? ⟨ob, 0, none⟩ = some (.slice (some ad) l.length c) ∧ w'.cell? (ad.add ((below l k - 1) * 7)) = some (.int .i64 (rd_T183 l (((below l k : Nat) : Int) - 1)).f0) ∧ w'.cell? ⟨(ad.add ((below l k - 1) * 7)).block, (ad.add ((below l k - 1) * 7)).off + 1, none⟩ = some (.int .i64 (rd_T183 l (((below l k : Nat) : Int) - 1)).f1.f0.f0) ∧ w'.cell? ⟨(ad.add ((below l k - 1) * 7)).block, (ad.add ((below l k - 1) * 7)).off + 1 + 1, none⟩ = some (.int .i64 (rd_T183 l (((below l k : Nat) : Int) - 1)).f1.f0.f1) ∧ w'.cell? ⟨(ad.add ((below l k - 1) * 7)).block, (ad.add ((below l k - 1) * 7)).off + 1 + 2, none⟩ = some (.int .i64 (rd_T183 l (((below l k : Nat) : Int) - 1)).f1.f1) ∧ w'.cell? ⟨(ad.add ((below l k - 1) * 7)).block, (ad.add ((below l k - 1) * 7)).off + 1 + 3, none⟩ = some (.int .i64 (rd_T183 l (((below l k : Nat) : Int) - 1)).f1.f2) ∧ w'.cell? ⟨(ad.add ((below l k - 1) * 7)).block, (ad.add ((below l k - 1) * 7)).off + 1 + 4, none⟩ = some (.int .i64 (rd_T183 l (((below l k : Nat) : Int) - 1)).f1.f3) ∧ w'.cell? ⟨(ad.add ((below l k - 1) * 7)).block, (ad.add ((below l k - 1) * 7)).off + 1 + 5, none⟩ = some (.bool (rd_T183 l (((below l k : Nat) : Int) - 1)).f1.f4)) (ds := [17]) #[false, false, false, false, false, false, false, false, false, false, false, false, false, false, false, false, false, false, false] (by kernel_rfl) rfl rfl ⟨hob, e0, e1, e2, e3, e4, e5, e6⟩ ?_
      intro hHeld
      clear hob e0 e1 e2 e3 e4 e5 e6 h0 h1 h2 h3 h4 h5 h6
      generalize w3.drew = w4 at *
      refine pure_ (i := 0) (N := some 26) (v := ?_) (a' := ?_) #[true, false, false, false, false, false, false, false, false, false, false, false, false, false, false, false, false, false, false] rfl rfl (by kernel_rfl) (fun _ _ _ h => h) (Or.inl ⟨by rfl, ?_⟩) ?_ ?_
      rotate_left
      · intro w'
        go_simp
        with_reducible rfl
      rotate_left
      · simp only [Act.put, List.setIfInBounds_toArray, List.set_cons_zero, List.set_cons_succ, i64_w, i32_w]
        rfl
      refine pure_ (i := 1) (N := some 27) (v := ?_) (a' := ?_) #[true, true, false, false, false, false, false, false, false, false, false, false, false, false, false, false, false, false, false] rfl rfl (by kernel_rfl) (fun _ _ _ h => h) (Or.inl ⟨by rfl, ?_⟩) ?_ ?_
      rotate_left
      · intro w'
        go_simp
        with_reducible rfl
      rotate_left
      · simp only [Act.put, List.setIfInBounds_toArray, List.set_cons_zero, List.set_cons_succ, i64_w, i32_w]
        rfl
      refine pure_ (i := 2) (N := some 28) (v := ?_) (a' := ?_) #[true, true, true, false, false, false, false, false, false, false, false, false, false, false, false, false, false, false, false] rfl rfl (by kernel_rfl) (fun _ _ _ h => h) (Or.inl ⟨by rfl, ?_⟩) ?_ ?_
      rotate_left
      · intro w'
        go_simp
        with_reducible rfl
      rotate_left
      · simp only [Act.put, List.setIfInBounds_toArray, List.set_cons_zero, List.set_cons_succ, i64_w, i32_w]
        rfl
      refine take_ (i := 3) (N := some 29) (v := ?_) (a' := ?_) #[true, true, true, true, false, false, false, false, false, false, false, false, false, false, false, false, false, false, false] rfl rfl (by kernel_rfl) (fun _ _ _ h => h) (Or.inl ⟨by rfl, ?_⟩) hHeld ?_ ?_
      rotate_left
      · rintro w' ⟨s0, s1, s2, s3, s4, s5, s6, s7⟩
        go_simp
        with_reducible rfl
      rotate_left
      · simp only [Act.put, List.setIfInBounds_toArray, List.set_cons_zero, List.set_cons_succ, i64_w, i32_w]
        rfl
      refine pure_ (i := 4) (N := some 30) (v := ?_) (a' := ?_) #[true, true, true, true, true, false, false, false, false, false, false, false, false, false, false, false, false, false, false] rfl rfl (by kernel_rfl) (fun _ _ _ h => h) (Or.inl ⟨by rfl, ?_⟩) ?_ ?_
      rotate_left
      · intro w'
        go_simp
        with_reducible rfl
      rotate_left
      · simp only [Act.put, List.setIfInBounds_toArray, List.set_cons_zero, List.set_cons_succ, i64_w, i32_w]
        rfl
      refine pure_ (i := 5) (N := some 31) (v := ?_) (a' := ?_) #[true, true, true, true, true, true, false, false, false, false, false, false, false, false, false, false, false, false, false] rfl rfl (by kernel_rfl) (fun _ _ _ h => h) (Or.inl ⟨by rfl, ?_⟩) ?_ ?_
      rotate_left
      · intro w'
        go_simp
        with_reducible rfl
      rotate_left
      · simp only [Act.put, List.setIfInBounds_toArray, List.set_cons_zero, List.set_cons_succ, i64_w, i32_w]
        rfl
      refine pure_ (i := 6) (N := some 32) (v := ?_) (a' := ?_) #[true, true, true, true, true, true, true, false, false, false, false, false, false, false, false, false, false, false, false] rfl rfl (by kernel_rfl) (fun _ _ _ h => h) (Or.inl ⟨by rfl, ?_⟩) ?_ ?_
      rotate_left
      · intro w'
        go_simp
        with_reducible rfl
      rotate_left
      · simp only [Act.put, List.setIfInBounds_toArray, List.set_cons_zero, List.set_cons_succ, i64_w, i32_w]
        rfl
      refine take_ (i := 7) (N := some 33) (v := ?_) (a' := ?_) #[true, true, true, true, true, true, true, true, false, false, false, false, false, false, false, false, false, false, false] rfl rfl (by kernel_rfl) (fun _ _ _ h => h) (Or.inl ⟨by rfl, ?_⟩) hHeld ?_ ?_
      rotate_left
      · rintro w' ⟨s0, s1, s2, s3, s4, s5, s6, s7⟩
        go_simp
        with_reducible rfl
      rotate_left
      · simp only [Act.put, List.setIfInBounds_toArray, List.set_cons_zero, List.set_cons_succ, i64_w, i32_w]
        rfl
      refine pure_ (i := 8) (N := some 34) (v := ?_) (a' := ?_) #[true, true, true, true, true, true, true, true, true, false, false, false, false, false, false, false, false, false, false] rfl rfl (by kernel_rfl) (fun _ _ _ h => h) (Or.inl ⟨by rfl, ?_⟩) ?_ ?_
      rotate_left
      · intro w'
        go_simp
        with_reducible rfl
      rotate_left
      · simp only [Act.put, List.setIfInBounds_toArray, List.set_cons_zero, List.set_cons_succ, i64_w, i32_w]
        rfl
      refine pure_ (i := 9) (N := some 35) (v := ?_) (a' := ?_) #[true, true, true, true, true, true, true, true, true, true, false, false, false, false, false, false, false, false, false] rfl rfl (by kernel_rfl) (fun _ _ _ h => h) (Or.inl ⟨by rfl, ?_⟩) ?_ ?_
      rotate_left
      · intro w'
        go_simp
        with_reducible rfl
      rotate_left
      · simp only [Act.put, List.setIfInBounds_toArray, List.set_cons_zero, List.set_cons_succ, i64_w, i32_w]
        rfl
      refine pure_ (i := 10) (N := some 36) (v := ?_) (a' := ?_) #[true, true, true, true, true, true, true, true, true, true, true, false, false, false, false, false, false, false, false] rfl rfl (by kernel_rfl) (fun _ _ _ h => h) (Or.inl ⟨by rfl, ?_⟩) ?_ ?_
      rotate_left
      · intro w'
        go_simp
        with_reducible rfl
      rotate_left
      · simp only [Act.put, List.setIfInBounds_toArray, List.set_cons_zero, List.set_cons_succ, i64_w, i32_w]
        rfl
      refine take_ (i := 11) (N := some 37) (v := ?_) (a' := ?_) #[true, true, true, true, true, true, true, true, true, true, true, true, false, false, false, false, false, false, false] rfl rfl (by kernel_rfl) (fun _ _ _ h => h) (Or.inl ⟨by rfl, ?_⟩) hHeld ?_ ?_
      rotate_left
      · rintro w' ⟨s0, s1, s2, s3, s4, s5, s6, s7⟩
        go_simp
        with_reducible rfl
      rotate_left
      · simp only [Act.put, List.setIfInBounds_toArray, List.set_cons_zero, List.set_cons_succ, i64_w, i32_w]
        rfl
      refine pure_ (i := 12) (N := some 38) (v := ?_) (a' := ?_) #[true, true, true, true, true, true, true, true, true, true, true, true, true, false, false, false, false, false, false] rfl rfl (by kernel_rfl) (fun _ _ _ h => h) (Or.inl ⟨by rfl, ?_⟩) ?_ ?_
      rotate_left
      · intro w'
        go_simp
        with_reducible rfl
      rotate_left
      · simp only [Act.put, List.setIfInBounds_toArray, List.set_cons_zero, List.set_cons_succ, i64_w, i32_w]
        rfl
      refine pure_ (i := 13) (N := some 39) (v := ?_) (a' := ?_) #[true, true, true, true, true, true, true, true, true, true, true, true, true, true, false, false, false, false, false] rfl rfl (by kernel_rfl) (fun _ _ _ h => h) (Or.inl ⟨by rfl, ?_⟩) ?_ ?_
      rotate_left
      · intro w'
        go_simp
        with_reducible rfl
      rotate_left
      · simp only [Act.put, List.setIfInBounds_toArray, List.set_cons_zero, List.set_cons_succ, i64_w, i32_w]
        rfl
      refine pure_ (i := 14) (N := some 40) (v := ?_) (a' := ?_) #[true, true, true, true, true, true, true, true, true, true, true, true, true, true, true, false, false, false, false] rfl rfl (by kernel_rfl) (fun _ _ _ h => h) (Or.inl ⟨by rfl, ?_⟩) ?_ ?_
      rotate_left
      · intro w'
        go_simp
        with_reducible rfl
      rotate_left
      · simp only [Act.put, List.setIfInBounds_toArray, List.set_cons_zero, List.set_cons_succ, i64_w, i32_w]
        rfl
      refine take_ (i := 15) (N := some 41) (v := ?_) (a' := ?_) #[true, true, true, true, true, true, true, true, true, true, true, true, true, true, true, true, false, false, false] rfl rfl (by kernel_rfl) (fun _ _ _ h => h) (Or.inl ⟨by rfl, ?_⟩) hHeld ?_ ?_
      rotate_left
      · rintro w' ⟨s0, s1, s2, s3, s4, s5, s6, s7⟩
        go_simp
        with_reducible rfl
      rotate_left
      · simp only [Act.put, List.setIfInBounds_toArray, List.set_cons_zero, List.set_cons_succ, i64_w, i32_w]
        rfl
      refine pure_ (i := 16) (N := some 4) (v := ?_) (a' := ?_) #[true, true, true, true, true, true, true, true, true, true, true, true, true, true, true, true, true, false, false] rfl rfl (by kernel_rfl) (fun _ _ _ h => h) (Or.inl ⟨by rfl, ?_⟩) ?_ ?_
      rotate_left
      · intro w'
        go_simp
        with_reducible rfl
      rotate_left
      · simp only [Act.put, List.setIfInBounds_toArray, List.set_cons_zero, List.set_cons_succ, i64_w, i32_w]
        rfl
      refine last_ (i := 17) (N := none) #[true, true, true, true, true, true, true, true, true, true, true, true, true, true, true, true, true, true, false] rfl rfl (by kernel_rfl) (by decide) (fun K hK => ?_)
      refine store_agg_step (by rfl) 43 (.tmp 5) (.tmp 41) rfl rfl b5 #[.int .i64 (rd_T183 l (((below l k : Nat) : Int) - 1)).f1.f0.f0, .int .i64 (rd_T183 l (((below l k : Nat) : Int) - 1)).f1.f0.f1, .int .i64 (rd_T183 l (((below l k : Nat) : Int) - 1)).f1.f1, .int .i64 (rd_T183 l (((below l k : Nat) : Int) - 1)).f1.f2, .int .i64 (rd_T183 l (((below l k : Nat) : Int) - 1)).f1.f3, .bool (rd_T183 l (((below l k : Nat) : Int) - 1)).f1.f4] 43 _ rfl rfl Kb5.out size43 rfl (by simp [Value.oneCell']) ?_
      intro w5 k5 g5
      refine hK.out _ _ ?_
      refine pure_ (i := 18) (N := some 6) (v := ?_) (a' := ?_) #[true, true, true, true, true, true, true, true, true, true, true, true, true, true, true, true, true, true, true] rfl rfl (by kernel_rfl) (fun _ _ _ h => h) (Or.inl ⟨by rfl, ?_⟩) ?_ ?_
      rotate_left
      · intro w'
        go_simp
        with_reducible rfl
      rotate_left
      · simp only [Act.put, List.setIfInBounds_toArray, List.set_cons_zero, List.set_cons_succ, i64_w, i32_w]
        rfl
      refine done_ (by kernel_rfl) ?_
      have Kb := Aside0.mk k5
      have HB' := Aside0.mk (HB.out.grown g5 HB.out.size (fun r e => by cases e; exact Gb5.out))
      clear k5 g5 hHeld
      go_wp2
      (try simp only [Exit.inBlock, Exit.then])
      refine bodyPost_ret (results_tct rfl _ _ b5 43 _ (0, 0) _ rfl Kb.out rfl Tryz.underlying43 size43) rfl ?_
      exact ⟨by rw [floorD, floorI, HF.out]; rfl, HB'.out⟩
end Go.Proofs.YthhmfeiefbnhcaaGreat.Due
namespace Go.Proofs.YthhmfeiefbnhcaaGreat.Due
open Go.RowKit Go.Proofs.YthhmfeiefbnhcaaGreat.PDueParts Go.Proofs.YthhmfeiefbnhcaaGreatW.PrintWords
set_option linter.unusedVariables false
set_option linter.unusedSimpArgs false
set_option maxHeartbeats 1000000 in
theorem number_calls (W : World) (y m : Int) (hy : 1970 ≤ y) (hy2 : y ≤ 5000) (h1 : 1 ≤ m) (h2 : m ≤ 12) :
    Calls Tryz.prog 124 #[.int .i64 y, .int .i64 m, .int .i64 1] W fun e w' => e = .returned (.int .i64 (num y m 1)) ∧ Below W.heap.size W w' := by
  have w1 : wrap64 (m - 3) = m - 3 := wr (by omega) (by omega)
  by_cases c : m - 3 < 0
  · go_enter Tryz.func124, Tryz.ntmps124
    go_wp2
    go_ret
    exact ⟨by show Ending.returned (.int .i64 _) = _; unfold num; rw [if_pos c]; congr 2; omega, Below.refl _ _⟩
  · go_enter Tryz.func124, Tryz.ntmps124
    go_wp2
    go_ret
    exact ⟨by show Ending.returned (.int .i64 _) = _; unfold num; rw [if_neg (by omega)]; congr 2; omega, Below.refl _ _⟩
set_option maxHeartbeats 1000000 in
theorem span1_calls (W : World) (m : Int) (h0 : 0 ≤ m) (h1 : m ≤ 30000) :
    Calls Tryz.prog 123 #[.int .i64 m] W fun e w' => e = .returned (.int .i64 (mst m)) ∧ Below W.heap.size W w' := by
  go_enter Tryz.func123, Tryz.ntmps123
  go_wp2_with (first
    | (refine (number_calls _ _ _ (by omega) (by omega) (by omega) (by omega)).mono ?_; rintro e w1 ⟨rfl, hb1⟩; have HB := Aside0.mk hb1; clear hb1)
    | fail)
  go_ret
  exact ⟨rfl, HB.out⟩
set_option maxHeartbeats 1000000 in
theorem cspan_calls (W : World) (m : Int) (h0 : 0 ≤ m) (h1 : m ≤ 22967) :
    Calls Tryz.prog 85 #[.int .i64 m] W fun e w' => e = .returned (.tuple #[.int .i64 (mst m), .int .i64 (mst (m + 1))]) ∧ Below W.heap.size W w' := by
  have HB := Aside0.mk (Below.refl W.heap.size W)
  go_enter Tryz.func85, Tryz.ntmps85
  go_wp2_with (first
    | (refine (span1_calls _ _ (by omega) (by omega)).mono ?_; rintro e w1 ⟨rfl, hb1⟩; replace HB := Aside0.mk (below_step HB.out hb1); clear hb1)
    | fail)
  go_ret2
  exact ⟨rfl, HB.out⟩
theorem right_calls (W : World) (t i : Int) : Calls Tryz.prog 81 #[.agg #[.int .i64 t, .int .i64 i]] W fun e w' => e = .returned (.bool (rightP t i)) ∧ Below W.heap.size W w' :=
  part_Right.calls 1 t i _ W (right_eq 0 t i)
theorem of_calls (W : World) (t h : Int) : Calls Tryz.prog 36 #[.int .i64 t, .int .i64 h] W fun e w' => e = .returned (.tuple #[.agg #[.int .i64 (ofT t h), .int .i64 (ofI t h)], .bool (okH h && okT t)]) ∧ Below W.heap.size W w' :=
  part_Of.calls 1 t h _ _ _ W (of_eq 0 t h)
set_option maxHeartbeats 2000000 in
theorem span_calls (W : World) (t i : Int) : Calls Tryz.prog 39 #[.agg #[.int .i64 t, .int .i64 i]] W fun e w' => e = .returned (.tuple #[.int .i64 (fromP t i), .int .i64 (endP t i)]) ∧ Below W.heap.size W w' := by
  have HB := Aside0.mk (Below.refl W.heap.size W)
  by_cases c : rightP t i = true
  case neg =>
    have c' : rightP t i = false := by simpa using c
    have HE := Aside0.mk c'
    clear c
    go_enter Tryz.func39, Tryz.ntmps39
    go_wp2_with (first
      | ((with_reducible refine gate_dst (N := 1) rfl ?_); refine box_event ?hg (N := 1) ?hd (cs := #[.int .i64 t, .int .i64 i]) (t := 38) ?hr ?_; (case hd => rfl); (case hg => rfl); (case hr => first | (go_simp; done) | (go_simp; rfl)); intro b1 hb1 w1 Kb1 hb_; replace HB := Aside0.mk (below_step HB.out hb_); have Gb1 := Aside0.mk (by rw [hb1]; exact Nat.le_refl _ : W.heap.size ≤ b1); clear hb1; clear hb_; have cb1_0 := blk_cell Kb1 0; have cb1_1 := blk_cell Kb1 1; simp only [List.getElem?_toArray, List.getElem?_cons_zero, List.getElem?_cons_succ] at cb1_0 cb1_1; replace Kb1 := Aside0.mk Kb1)
      | (go_at_call 81; refine (right_calls _ t i).mono ?_; rintro e w2 ⟨rfl, hb2⟩; rw [HE.out]; replace HB := Aside0.mk (below_step HB.out hb2); replace cb1_0 := pw_cell_below hb2 cb1_0; replace cb1_1 := pw_cell_below hb2 cb1_1; clear hb2)
      | fail)
    go_ret2
    exact ⟨by rw [fromP, endP, HE.out]; rfl, HB.out⟩
  case pos =>
    have b := lo_bd c
    obtain ⟨ht, h0, h1⟩ := right_t c
    have HE := Aside0.mk c
    have HT := Aside0.mk ht
    clear c
    rcases ht with ht | ht | ht
    · subst ht
      simp (decide := true) only [lo, most, if_true, if_false] at b h1
      have r1 : wrap64 (i + 1) = i + 1 := wr (by omega) (by omega)
      go_enter Tryz.func39, Tryz.ntmps39
      go_wp2_with (first
        | ((with_reducible refine gate_dst (N := 1) rfl ?_); refine box_event ?hg (N := 1) ?hd (cs := #[.int .i64 1, .int .i64 i]) (t := 38) ?hr ?_; (case hd => rfl); (case hg => rfl); (case hr => first | (go_simp; done) | (go_simp; rfl)); intro b1 hb1 w1 Kb1 hb_; replace HB := Aside0.mk (below_step HB.out hb_); have Gb1 := Aside0.mk (by rw [hb1]; exact Nat.le_refl _ : W.heap.size ≤ b1); clear hb1; clear hb_; have cb1_0 := blk_cell Kb1 0; have cb1_1 := blk_cell Kb1 1; simp only [List.getElem?_toArray, List.getElem?_cons_zero, List.getElem?_cons_succ] at cb1_0 cb1_1; replace Kb1 := Aside0.mk Kb1)
        | (go_at_call 81; refine (right_calls _ _ i).mono ?_; rintro e w2 ⟨rfl, hb2⟩; rw [HE.out]; replace HB := Aside0.mk (below_step HB.out hb2); replace cb1_0 := pw_cell_below hb2 cb1_0; replace cb1_1 := pw_cell_below hb2 cb1_1; clear hb2)
        | fail)
      go_quiet (fail)
      go_wp2
      go_ret2
      exact ⟨by rw [fromP, endP, HE.out]; rfl, pw_below_drewN HB.out _⟩
    · subst ht
      simp (decide := true) only [lo, most, if_true, if_false] at b h1
      have r1 : wrap64 (i + 1) = i + 1 := wr (by omega) (by omega)
      have r2 : wrap64 (i * 24) = i * 24 := wr (by omega) (by omega)
      have r3 : wrap64 ((i + 1) * 24) = (i + 1) * 24 := wr (by omega) (by omega)
      go_enter Tryz.func39, Tryz.ntmps39
      go_wp2_with (first
        | ((with_reducible refine gate_dst (N := 1) rfl ?_); refine box_event ?hg (N := 1) ?hd (cs := #[.int .i64 2, .int .i64 i]) (t := 38) ?hr ?_; (case hd => rfl); (case hg => rfl); (case hr => first | (go_simp; done) | (go_simp; rfl)); intro b1 hb1 w1 Kb1 hb_; replace HB := Aside0.mk (below_step HB.out hb_); have Gb1 := Aside0.mk (by rw [hb1]; exact Nat.le_refl _ : W.heap.size ≤ b1); clear hb1; clear hb_; have cb1_0 := blk_cell Kb1 0; have cb1_1 := blk_cell Kb1 1; simp only [List.getElem?_toArray, List.getElem?_cons_zero, List.getElem?_cons_succ] at cb1_0 cb1_1; replace Kb1 := Aside0.mk Kb1)
        | (go_at_call 81; refine (right_calls _ _ i).mono ?_; rintro e w2 ⟨rfl, hb2⟩; rw [HE.out]; replace HB := Aside0.mk (below_step HB.out hb2); replace cb1_0 := pw_cell_below hb2 cb1_0; replace cb1_1 := pw_cell_below hb2 cb1_1; clear hb2)
        | fail)
      go_quiet (fail)
      go_wp2
      go_ret2
      exact ⟨by rw [fromP, endP, HE.out]; show Ending.returned (.tuple #[.int .i64 (i * 24), .int .i64 ((i + 1) * 24)]) = Ending.returned (.tuple #[.int .i64 (24 * i), .int .i64 (24 * (i + 1))]); rw [Int.mul_comm 24 i, Int.mul_comm 24 (i + 1)], pw_below_drewN HB.out _⟩
    · subst ht
      simp (decide := true) only [lo, most, if_true, if_false] at b h1
      have r1 : wrap64 (i + 1) = i + 1 := wr (by omega) (by omega)
      have r2 : wrap64 (mst i * 24) = mst i * 24 := wr (by omega) (by omega)
      have r3 : wrap64 (mst (i + 1) * 24) = mst (i + 1) * 24 := wr (by omega) (by omega)
      go_enter Tryz.func39, Tryz.ntmps39
      go_wp2_with (first
        | ((with_reducible refine gate_dst (N := 1) rfl ?_); refine box_event ?hg (N := 1) ?hd (cs := #[.int .i64 3, .int .i64 i]) (t := 38) ?hr ?_; (case hd => rfl); (case hg => rfl); (case hr => first | (go_simp; done) | (go_simp; rfl)); intro b1 hb1 w1 Kb1 hb_; replace HB := Aside0.mk (below_step HB.out hb_); have Gb1 := Aside0.mk (by rw [hb1]; exact Nat.le_refl _ : W.heap.size ≤ b1); clear hb1; clear hb_; have cb1_0 := blk_cell Kb1 0; have cb1_1 := blk_cell Kb1 1; simp only [List.getElem?_toArray, List.getElem?_cons_zero, List.getElem?_cons_succ] at cb1_0 cb1_1; replace Kb1 := Aside0.mk Kb1)
        | (go_at_call 81; refine (right_calls _ _ i).mono ?_; rintro e w2 ⟨rfl, hb2⟩; rw [HE.out]; replace HB := Aside0.mk (below_step HB.out hb2); replace cb1_0 := pw_cell_below hb2 cb1_0; replace cb1_1 := pw_cell_below hb2 cb1_1; clear hb2)
        | fail)
      go_quiet (fail)
      go_wp2_with (first | (go_at_call 85; refine (cspan_calls _ i (by omega) (by omega)).mono ?_; rintro e w4 ⟨rfl, hb4⟩; have hb4' := Aside0.mk (below_step (pw_below_drewN HB.out _) hb4); clear hb4) | fail)
      go_ret2
      exact ⟨by rw [fromP, endP, HE.out]; show Ending.returned (.tuple #[.int .i64 (mst i * 24), .int .i64 (mst (i + 1) * 24)]) = Ending.returned (.tuple #[.int .i64 (24 * mst i), .int .i64 (24 * mst (i + 1))]); rw [Int.mul_comm 24 (mst i), Int.mul_comm 24 (mst (i + 1))], hb4'.out⟩
end Go.Proofs.YthhmfeiefbnhcaaGreat.Due
namespace Go.Proofs.YthhmfeiefbnhcaaGreat.Due
open Go.RowKit Go.Proofs.YthhmfeiefbnhcaaGreat.PDueParts Go.Proofs.YthhmfeiefbnhcaaGreatW.PrintWords Go.Proofs.YthhmfeiefbnhcaaGreatW.PrintLast
set_option linter.unusedVariables false
set_option linter.unusedSimpArgs false
theorem end_pos (t i : Int) : (0 < endP t i) ↔ rightP t i = true := by
  unfold endP
  by_cases c : rightP t i = true
  · rw [if_pos c]; have := lo_bd c; exact ⟨fun _ => c, fun _ => by omega⟩
  · rw [if_neg c]; exact ⟨fun h => by omega, fun h => absurd h c⟩
theorem dec_end (t i : Int) : decide (0 < endP t i) = rightP t i := by
  rw [Bool.eq_iff_iff, decide_eq_true_iff]; exact end_pos t i
theorem results_tmp5 {fn : Func} {t u v x y : Tmp} (h : fn.results = #[.tmp t, .tmp u, .tmp v, .tmp x, .tmp y]) (tmps : Array Value) (P : Program) (w : World) :
    (results fn tmps).run P w = .ok (.tuple #[tmps.getD t undef, tmps.getD u undef, tmps.getD v undef, tmps.getD x undef, tmps.getD y undef]) w := by
  simp [results, h]
set_option maxRecDepth 100000 in
set_option maxHeartbeats 2000000 in
theorem spans_calls (W : World) (t i u j : Int) : Calls Tryz.prog 35 #[.agg #[.int .i64 t, .int .i64 i], .agg #[.int .i64 u, .int .i64 j]] W fun e w' =>
    e = .returned (.tuple #[.int .i64 (fromP t i), .int .i64 (endP t i), .int .i64 (fromP u j), .int .i64 (endP u j), .bool (rightP t i && rightP u j)]) ∧ Below W.heap.size W w' := by
  have HB := Aside0.mk (Below.refl W.heap.size W)
  have HE := Aside0.mk (end_pos t i)
  have HF := Aside0.mk (end_pos u j)
  by_cases c : 0 < endP t i
  case pos =>
    go_enter Tryz.func35, Tryz.ntmps35
    go_wp2_with (first
      | ((with_reducible refine gate_dst (N := 2) rfl ?_); refine box_event ?hg (N := 2) ?hd (cs := #[.int .i64 t, .int .i64 i]) (t := 38) ?hr ?_; (case hd => rfl); (case hg => rfl); (case hr => first | (go_simp; done) | (go_simp; rfl)); intro b1 hb1 w1 Kb1 hb_; replace HB := Aside0.mk (below_step HB.out hb_); have Gb1 := Aside0.mk (by rw [hb1]; exact Nat.le_refl _ : W.heap.size ≤ b1); clear hb1; clear hb_; have cb1_0 := blk_cell Kb1 0; have cb1_1 := blk_cell Kb1 1; simp only [List.getElem?_toArray, List.getElem?_cons_zero, List.getElem?_cons_succ] at cb1_0 cb1_1; replace Kb1 := Aside0.mk Kb1)
      | ((with_reducible refine gate_dst (N := 3) rfl ?_); refine box_event ?hg (N := 3) ?hd (cs := #[.int .i64 u, .int .i64 j]) (t := 38) ?hr ?_; (case hd => rfl); (case hg => rfl); (case hr => first | (go_simp; done) | (go_simp; rfl)); intro b2 hb2 w2 Kb2 hb_; replace HB := Aside0.mk (below_step HB.out hb_); have Gb2 := Aside0.mk (by rw [hb2]; exact Nat.le_refl _ : w1.heap.size ≤ b2); clear hb2; replace cb1_0 := pw_cell_below hb_ cb1_0; replace cb1_1 := pw_cell_below hb_ cb1_1; clear hb_; have cb2_0 := blk_cell Kb2 0; have cb2_1 := blk_cell Kb2 1; simp only [List.getElem?_toArray, List.getElem?_cons_zero, List.getElem?_cons_succ] at cb2_0 cb2_1; replace Kb2 := Aside0.mk Kb2)
      | (go_at_call 39; refine (span_calls _ _ _).mono ?_; rintro e w3 ⟨rfl, hb_⟩; replace HB := Aside0.mk (below_step HB.out hb_); replace cb1_0 := pw_cell_below hb_ cb1_0; replace cb1_1 := pw_cell_below hb_ cb1_1; replace cb2_0 := pw_cell_below hb_ cb2_0; replace cb2_1 := pw_cell_below hb_ cb2_1; clear hb_)
      | fail)
    (try simp only [Exit.inBlock, Exit.then]); refine bodyPost_ret (results_tmp5 rfl _ _ _) rfl ?_
    exact ⟨by show Ending.returned (.tuple #[_, _, _, _, .bool (decide (0 < endP u j))]) = _; rw [dec_end, HE.out.1 c]; rfl, HB.out⟩
  case neg =>
    go_enter Tryz.func35, Tryz.ntmps35
    go_wp2_with (first
      | ((with_reducible refine gate_dst (N := 2) rfl ?_); refine box_event ?hg (N := 2) ?hd (cs := #[.int .i64 t, .int .i64 i]) (t := 38) ?hr ?_; (case hd => rfl); (case hg => rfl); (case hr => first | (go_simp; done) | (go_simp; rfl)); intro b1 hb1 w1 Kb1 hb_; replace HB := Aside0.mk (below_step HB.out hb_); have Gb1 := Aside0.mk (by rw [hb1]; exact Nat.le_refl _ : W.heap.size ≤ b1); clear hb1; clear hb_; have cb1_0 := blk_cell Kb1 0; have cb1_1 := blk_cell Kb1 1; simp only [List.getElem?_toArray, List.getElem?_cons_zero, List.getElem?_cons_succ] at cb1_0 cb1_1; replace Kb1 := Aside0.mk Kb1)
      | ((with_reducible refine gate_dst (N := 3) rfl ?_); refine box_event ?hg (N := 3) ?hd (cs := #[.int .i64 u, .int .i64 j]) (t := 38) ?hr ?_; (case hd => rfl); (case hg => rfl); (case hr => first | (go_simp; done) | (go_simp; rfl)); intro b2 hb2 w2 Kb2 hb_; replace HB := Aside0.mk (below_step HB.out hb_); have Gb2 := Aside0.mk (by rw [hb2]; exact Nat.le_refl _ : w1.heap.size ≤ b2); clear hb2; replace cb1_0 := pw_cell_below hb_ cb1_0; replace cb1_1 := pw_cell_below hb_ cb1_1; clear hb_; have cb2_0 := blk_cell Kb2 0; have cb2_1 := blk_cell Kb2 1; simp only [List.getElem?_toArray, List.getElem?_cons_zero, List.getElem?_cons_succ] at cb2_0 cb2_1; replace Kb2 := Aside0.mk Kb2)
      | (go_at_call 39; refine (span_calls _ _ _).mono ?_; rintro e w3 ⟨rfl, hb_⟩; replace HB := Aside0.mk (below_step HB.out hb_); replace cb1_0 := pw_cell_below hb_ cb1_0; replace cb1_1 := pw_cell_below hb_ cb1_1; replace cb2_0 := pw_cell_below hb_ cb2_0; replace cb2_1 := pw_cell_below hb_ cb2_1; clear hb_)
      | fail)
    (try simp only [Exit.inBlock, Exit.then]); refine bodyPost_ret (results_tmp5 rfl _ _ _) rfl ?_
    exact ⟨by rw [show rightP t i = false from by cases h : rightP t i; rfl; exact absurd (HE.out.2 h) (by omega)]; rfl, HB.out⟩
def withinP (t i u j : Int) : Bool := rightP t i && rightP u j && decide (fromP u j ≤ fromP t i) && decide (endP t i ≤ endP u j)
theorem meets_max {t i u j : Int} (h : (rightP t i && rightP u j) = true) : meetsP t i u j = decide (max (fromP t i) (fromP u j) < min (endP t i) (endP u j)) := by
  obtain ⟨h1, h2⟩ := Bool.and_eq_true_iff.1 h
  have a := lo_bd h1
  have b := lo_bd h2
  unfold meetsP
  rw [h1, h2]
  have e1 : fromP t i < endP t i := by rw [fromP, endP, if_pos h1, if_pos h1]; exact a.2.1
  have e2 : fromP u j < endP u j := by rw [fromP, endP, if_pos h2, if_pos h2]; exact b.2.1
  rw [Bool.true_and, Bool.true_and, ← Bool.decide_and, decide_eq_decide]
  omega
set_option maxRecDepth 100000 in
set_option maxHeartbeats 2000000 in
theorem meets_calls (W : World) (t i u j : Int) : Calls Tryz.prog 9 #[.agg #[.int .i64 t, .int .i64 i], .agg #[.int .i64 u, .int .i64 j]] W fun e w' =>
    e = .returned (.bool (meetsP t i u j)) ∧ Below W.heap.size W w' := by
  have HB := Aside0.mk (Below.refl W.heap.size W)
  by_cases c : (rightP t i && rightP u j) = true
  case pos =>
    have HE := Aside0.mk (meets_max c)
    have HC := Aside0.mk c
    clear c
    go_enter Tryz.func9, Tryz.ntmps9
    go_wp2_with (first
      | ((with_reducible refine gate_dst (N := 2) rfl ?_); refine box_event ?hg (N := 2) ?hd (cs := #[.int .i64 t, .int .i64 i]) (t := 38) ?hr ?_; (case hd => rfl); (case hg => rfl); (case hr => first | (go_simp; done) | (go_simp; rfl)); intro b1 hb1 w1 Kb1 hb_; replace HB := Aside0.mk (below_step HB.out hb_); have Gb1 := Aside0.mk (by rw [hb1]; exact Nat.le_refl _ : W.heap.size ≤ b1); clear hb1; clear hb_; have cb1_0 := blk_cell Kb1 0; have cb1_1 := blk_cell Kb1 1; simp only [List.getElem?_toArray, List.getElem?_cons_zero, List.getElem?_cons_succ] at cb1_0 cb1_1; replace Kb1 := Aside0.mk Kb1)
      | ((with_reducible refine gate_dst (N := 3) rfl ?_); refine box_event ?hg (N := 3) ?hd (cs := #[.int .i64 u, .int .i64 j]) (t := 38) ?hr ?_; (case hd => rfl); (case hg => rfl); (case hr => first | (go_simp; done) | (go_simp; rfl)); intro b2 hb2 w2 Kb2 hb_; replace HB := Aside0.mk (below_step HB.out hb_); have Gb2 := Aside0.mk (by rw [hb2]; exact Nat.le_refl _ : w1.heap.size ≤ b2); clear hb2; replace cb1_0 := pw_cell_below hb_ cb1_0; replace cb1_1 := pw_cell_below hb_ cb1_1; clear hb_; have cb2_0 := blk_cell Kb2 0; have cb2_1 := blk_cell Kb2 1; simp only [List.getElem?_toArray, List.getElem?_cons_zero, List.getElem?_cons_succ] at cb2_0 cb2_1; replace Kb2 := Aside0.mk Kb2)
      | (go_at_call 35; refine (spans_calls _ _ _ _ _).mono ?_; rintro e w3 ⟨rfl, hb_⟩; rw [HC.out]; replace HB := Aside0.mk (below_step HB.out hb_); replace cb1_0 := pw_cell_below hb_ cb1_0; replace cb1_1 := pw_cell_below hb_ cb1_1; replace cb2_0 := pw_cell_below hb_ cb2_0; replace cb2_1 := pw_cell_below hb_ cb2_1; clear hb_)
      | fail)
    go_ret
    exact ⟨by rw [HE.out]; rfl, HB.out⟩
  case neg =>
    have c' : (rightP t i && rightP u j) = false := by simpa using c
    have HE := Aside0.mk (show meetsP t i u j = false by unfold meetsP; rw [c']; rfl)
    have HC := Aside0.mk c'
    clear c c'
    go_enter Tryz.func9, Tryz.ntmps9
    go_wp2_with (first
      | ((with_reducible refine gate_dst (N := 2) rfl ?_); refine box_event ?hg (N := 2) ?hd (cs := #[.int .i64 t, .int .i64 i]) (t := 38) ?hr ?_; (case hd => rfl); (case hg => rfl); (case hr => first | (go_simp; done) | (go_simp; rfl)); intro b1 hb1 w1 Kb1 hb_; replace HB := Aside0.mk (below_step HB.out hb_); have Gb1 := Aside0.mk (by rw [hb1]; exact Nat.le_refl _ : W.heap.size ≤ b1); clear hb1; clear hb_; have cb1_0 := blk_cell Kb1 0; have cb1_1 := blk_cell Kb1 1; simp only [List.getElem?_toArray, List.getElem?_cons_zero, List.getElem?_cons_succ] at cb1_0 cb1_1; replace Kb1 := Aside0.mk Kb1)
      | ((with_reducible refine gate_dst (N := 3) rfl ?_); refine box_event ?hg (N := 3) ?hd (cs := #[.int .i64 u, .int .i64 j]) (t := 38) ?hr ?_; (case hd => rfl); (case hg => rfl); (case hr => first | (go_simp; done) | (go_simp; rfl)); intro b2 hb2 w2 Kb2 hb_; replace HB := Aside0.mk (below_step HB.out hb_); have Gb2 := Aside0.mk (by rw [hb2]; exact Nat.le_refl _ : w1.heap.size ≤ b2); clear hb2; replace cb1_0 := pw_cell_below hb_ cb1_0; replace cb1_1 := pw_cell_below hb_ cb1_1; clear hb_; have cb2_0 := blk_cell Kb2 0; have cb2_1 := blk_cell Kb2 1; simp only [List.getElem?_toArray, List.getElem?_cons_zero, List.getElem?_cons_succ] at cb2_0 cb2_1; replace Kb2 := Aside0.mk Kb2)
      | (go_at_call 35; refine (spans_calls _ _ _ _ _).mono ?_; rintro e w3 ⟨rfl, hb_⟩; rw [HC.out]; replace HB := Aside0.mk (below_step HB.out hb_); replace cb1_0 := pw_cell_below hb_ cb1_0; replace cb1_1 := pw_cell_below hb_ cb1_1; replace cb2_0 := pw_cell_below hb_ cb2_0; replace cb2_1 := pw_cell_below hb_ cb2_1; clear hb_)
      | fail)
    go_ret
    exact ⟨by rw [HE.out]; rfl, HB.out⟩
set_option maxRecDepth 100000 in
set_option maxHeartbeats 2000000 in
theorem within_calls (W : World) (t i u j : Int) : Calls Tryz.prog 10 #[.agg #[.int .i64 t, .int .i64 i], .agg #[.int .i64 u, .int .i64 j]] W fun e w' =>
    e = .returned (.bool (withinP t i u j)) ∧ Below W.heap.size W w' := by
  have HB := Aside0.mk (Below.refl W.heap.size W)
  by_cases c : (rightP t i && rightP u j) = true
  case pos =>
    have HC := Aside0.mk c
    clear c
    by_cases d : fromP u j ≤ fromP t i
    · go_enter Tryz.func10, Tryz.ntmps10
      go_wp2_with (first
      | ((with_reducible refine gate_dst (N := 2) rfl ?_); refine box_event ?hg (N := 2) ?hd (cs := #[.int .i64 t, .int .i64 i]) (t := 38) ?hr ?_; (case hd => rfl); (case hg => rfl); (case hr => first | (go_simp; done) | (go_simp; rfl)); intro b1 hb1 w1 Kb1 hb_; replace HB := Aside0.mk (below_step HB.out hb_); have Gb1 := Aside0.mk (by rw [hb1]; exact Nat.le_refl _ : W.heap.size ≤ b1); clear hb1; clear hb_; have cb1_0 := blk_cell Kb1 0; have cb1_1 := blk_cell Kb1 1; simp only [List.getElem?_toArray, List.getElem?_cons_zero, List.getElem?_cons_succ] at cb1_0 cb1_1; replace Kb1 := Aside0.mk Kb1)
      | ((with_reducible refine gate_dst (N := 3) rfl ?_); refine box_event ?hg (N := 3) ?hd (cs := #[.int .i64 u, .int .i64 j]) (t := 38) ?hr ?_; (case hd => rfl); (case hg => rfl); (case hr => first | (go_simp; done) | (go_simp; rfl)); intro b2 hb2 w2 Kb2 hb_; replace HB := Aside0.mk (below_step HB.out hb_); have Gb2 := Aside0.mk (by rw [hb2]; exact Nat.le_refl _ : w1.heap.size ≤ b2); clear hb2; replace cb1_0 := pw_cell_below hb_ cb1_0; replace cb1_1 := pw_cell_below hb_ cb1_1; clear hb_; have cb2_0 := blk_cell Kb2 0; have cb2_1 := blk_cell Kb2 1; simp only [List.getElem?_toArray, List.getElem?_cons_zero, List.getElem?_cons_succ] at cb2_0 cb2_1; replace Kb2 := Aside0.mk Kb2)
      | (go_at_call 35; refine (spans_calls _ _ _ _ _).mono ?_; rintro e w3 ⟨rfl, hb_⟩; rw [HC.out]; replace HB := Aside0.mk (below_step HB.out hb_); replace cb1_0 := pw_cell_below hb_ cb1_0; replace cb1_1 := pw_cell_below hb_ cb1_1; replace cb2_0 := pw_cell_below hb_ cb2_0; replace cb2_1 := pw_cell_below hb_ cb2_1; clear hb_)
      | fail)
      go_ret
      exact ⟨by rw [withinP, HC.out, decide_eq_true d]; rfl, HB.out⟩
    · go_enter Tryz.func10, Tryz.ntmps10
      go_wp2_with (first
      | ((with_reducible refine gate_dst (N := 2) rfl ?_); refine box_event ?hg (N := 2) ?hd (cs := #[.int .i64 t, .int .i64 i]) (t := 38) ?hr ?_; (case hd => rfl); (case hg => rfl); (case hr => first | (go_simp; done) | (go_simp; rfl)); intro b1 hb1 w1 Kb1 hb_; replace HB := Aside0.mk (below_step HB.out hb_); have Gb1 := Aside0.mk (by rw [hb1]; exact Nat.le_refl _ : W.heap.size ≤ b1); clear hb1; clear hb_; have cb1_0 := blk_cell Kb1 0; have cb1_1 := blk_cell Kb1 1; simp only [List.getElem?_toArray, List.getElem?_cons_zero, List.getElem?_cons_succ] at cb1_0 cb1_1; replace Kb1 := Aside0.mk Kb1)
      | ((with_reducible refine gate_dst (N := 3) rfl ?_); refine box_event ?hg (N := 3) ?hd (cs := #[.int .i64 u, .int .i64 j]) (t := 38) ?hr ?_; (case hd => rfl); (case hg => rfl); (case hr => first | (go_simp; done) | (go_simp; rfl)); intro b2 hb2 w2 Kb2 hb_; replace HB := Aside0.mk (below_step HB.out hb_); have Gb2 := Aside0.mk (by rw [hb2]; exact Nat.le_refl _ : w1.heap.size ≤ b2); clear hb2; replace cb1_0 := pw_cell_below hb_ cb1_0; replace cb1_1 := pw_cell_below hb_ cb1_1; clear hb_; have cb2_0 := blk_cell Kb2 0; have cb2_1 := blk_cell Kb2 1; simp only [List.getElem?_toArray, List.getElem?_cons_zero, List.getElem?_cons_succ] at cb2_0 cb2_1; replace Kb2 := Aside0.mk Kb2)
      | (go_at_call 35; refine (spans_calls _ _ _ _ _).mono ?_; rintro e w3 ⟨rfl, hb_⟩; rw [HC.out]; replace HB := Aside0.mk (below_step HB.out hb_); replace cb1_0 := pw_cell_below hb_ cb1_0; replace cb1_1 := pw_cell_below hb_ cb1_1; replace cb2_0 := pw_cell_below hb_ cb2_0; replace cb2_1 := pw_cell_below hb_ cb2_1; clear hb_)
      | fail)
      go_ret
      exact ⟨by rw [withinP, HC.out, decide_eq_false (by omega)]; rfl, HB.out⟩
  case neg =>
    have c' : (rightP t i && rightP u j) = false := by simpa using c
    have HE := Aside0.mk (show withinP t i u j = false by unfold withinP; rw [c']; rfl)
    have HC := Aside0.mk c'
    clear c c'
    go_enter Tryz.func10, Tryz.ntmps10
    go_wp2_with (first
      | ((with_reducible refine gate_dst (N := 2) rfl ?_); refine box_event ?hg (N := 2) ?hd (cs := #[.int .i64 t, .int .i64 i]) (t := 38) ?hr ?_; (case hd => rfl); (case hg => rfl); (case hr => first | (go_simp; done) | (go_simp; rfl)); intro b1 hb1 w1 Kb1 hb_; replace HB := Aside0.mk (below_step HB.out hb_); have Gb1 := Aside0.mk (by rw [hb1]; exact Nat.le_refl _ : W.heap.size ≤ b1); clear hb1; clear hb_; have cb1_0 := blk_cell Kb1 0; have cb1_1 := blk_cell Kb1 1; simp only [List.getElem?_toArray, List.getElem?_cons_zero, List.getElem?_cons_succ] at cb1_0 cb1_1; replace Kb1 := Aside0.mk Kb1)
      | ((with_reducible refine gate_dst (N := 3) rfl ?_); refine box_event ?hg (N := 3) ?hd (cs := #[.int .i64 u, .int .i64 j]) (t := 38) ?hr ?_; (case hd => rfl); (case hg => rfl); (case hr => first | (go_simp; done) | (go_simp; rfl)); intro b2 hb2 w2 Kb2 hb_; replace HB := Aside0.mk (below_step HB.out hb_); have Gb2 := Aside0.mk (by rw [hb2]; exact Nat.le_refl _ : w1.heap.size ≤ b2); clear hb2; replace cb1_0 := pw_cell_below hb_ cb1_0; replace cb1_1 := pw_cell_below hb_ cb1_1; clear hb_; have cb2_0 := blk_cell Kb2 0; have cb2_1 := blk_cell Kb2 1; simp only [List.getElem?_toArray, List.getElem?_cons_zero, List.getElem?_cons_succ] at cb2_0 cb2_1; replace Kb2 := Aside0.mk Kb2)
      | (go_at_call 35; refine (spans_calls _ _ _ _ _).mono ?_; rintro e w3 ⟨rfl, hb_⟩; rw [HC.out]; replace HB := Aside0.mk (below_step HB.out hb_); replace cb1_0 := pw_cell_below hb_ cb1_0; replace cb1_1 := pw_cell_below hb_ cb1_1; replace cb2_0 := pw_cell_below hb_ cb2_0; replace cb2_1 := pw_cell_below hb_ cb2_1; clear hb_)
      | fail)
    go_ret
    exact ⟨by rw [HE.out]; rfl, HB.out⟩
end Go.Proofs.YthhmfeiefbnhcaaGreat.Due
