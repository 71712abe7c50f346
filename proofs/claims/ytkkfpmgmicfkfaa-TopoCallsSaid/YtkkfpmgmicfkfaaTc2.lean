/- Joined by wip/tools/pack.py out of texts of this session's own. -/
import Derived.Test.YtkkfpmgmicfkfaaWWords
import Derived.Test.YtkkfpmgmicfkfaaWLast
import Derived.Test.YtkkfpmgmicfkfaaWQPut
import Derived.Test.YtkkfpmgmicfkfaaWApart
import Derived.Test.YtkkfpmgmicfkfaaWArr
import Derived.Test.YtkkfpmgmicfkfaaWZeros
import Derived.Test.YtkkfpmgmicfkfaaWFoot
import Derived.Test.YtkkfpmgmicfkfaaWKept
import Derived.Test.YtkkfpmgmicfkfaaWShare
import Derived.Test.YtkkfpmgmicfkfaaWN
import Derived.Test.YtkkfpmgmicfkfaaWNEv
import Derived.Test.YtkkfpmgmicfkfaaWMore
import Derived.Test.YtkkfpmgmicfkfaaWTab
import Derived.Test.YtkkfpmgmicfkfaaWRepsOne
import Derived.Test.YtkkfpmgmicfkfaaWInv
import Derived.Test.YtkkfpmgmicfkfaaTc1
import Derived.Below
import Derived.Deep.Draws
import Derived.Deep.AppendLies
import Derived.Maps.AppendAt
import Derived.OwnWalk
import Derived.Laws.BytesArg
import Derived.Laws.MakeOwn
import Derived.Laws.OwnMore
import Derived.Deep.OwnRows
import Derived.Tactics
import Derived.Lib.ConvBytes
import Derived.Laws.Slices
import Derived.WalkKit
import Derived.KernelRfl
import Derived.RowKit3
import Derived.Deep.LoopGhost
import Derived.Deep.QuietTactic
import Derived.BigQuiet
import Derived.WideLaws
import Derived.Deep.DeepCutAuto
import Derived.Deep.CutBlock
import Derived.Deep.RegionHeld3
import Derived.Laws.Rows
import Derived.Lib.AppendStr
import Derived.ArgAppend
import Derived.Laws.IdiomCopy
import Derived.RowKit
import Derived.OrdersHeld
import Derived.Laws.BitsLemmas
import Derived.Laws.StructEq
import Derived.IntWalk
import Derived.BigRegion
import Derived.Deep.RegionWith
import Derived.StillTailTactics
/- Printed by a program of this session's own (wip/tools/xprint.py) out of the translation: functions as plain Lean, and their walks. -/
namespace Go.Proofs.Ytkkfpmgmicfkfaa.X
open Go.RowKit Go.Proofs.YtkkfpmgmicfkfaaW.PrintWords Go.Proofs.YtkkfpmgmicfkfaaW.PrintLast Go.Proofs.YtkkfpmgmicfkfaaW.PrintMore
attribute [local go_sem] max2_int min2_int max_two min_two max_three min_three max_four min_four   -- for this text's walks alone
set_option linter.unusedVariables false
set_option linter.unusedSimpArgs false
/-! ### braidworkref19_add: function 78 -/
def braidworkref19_add.l0 : Nat → List Int → Int → List Int → Bool → Int → Option (List Int)
 | 0, _, _, _, _, _ => none
 | k + 1, x0, x1, x5, x6, x7 => if x7 < (x0.length : Int) then (if 0 ≤ x7 then (if (rd x0 x7) = x1 then (some x0) else (if x6 = true then (if x5.length < 17592186044416 then (braidworkref19_add.l0 k x0 x1 (x5 ++ [rd x0 x7]) x6 (wrap64 (x7 + 1))) else (none)) else (if (rd x0 x7) > x1 then (if x5.length < 17592186044416 then ((some (x5 ++ [x1] : List Int)).bind fun y310 => (if y310.length < 17592186044416 then (braidworkref19_add.l0 k x0 x1 (y310 ++ [rd x0 x7]) true (wrap64 (x7 + 1))) else (none))) else (none)) else (if x5.length < 17592186044416 then (braidworkref19_add.l0 k x0 x1 (x5 ++ [rd x0 x7]) x6 (wrap64 (x7 + 1))) else (none))))) else (none)) else (if x6 = true then (some x5) else (if x5.length < 17592186044416 then (some (x5 ++ [x1])) else (none)))
def braidworkref19_add.f (k : Nat) (l0 : List Int) (a1 : Int) : Option (List Int) := braidworkref19_add.l0 k l0 a1 ([] : List Int) false 0
theorem braidworkref19_add.mono_l : ∀ k, (∀ y0 y1 y2 y3 y4, LeO (braidworkref19_add.l0 k y0 y1 y2 y3 y4) (braidworkref19_add.l0 (k + 1) y0 y1 y2 y3 y4))
 | 0 => fun _ _ _ _ _ r h => by simp [braidworkref19_add.l0] at h
 | k + 1 => by
  have ih0 := braidworkref19_add.mono_l k
  · intro y0 y1 y2 y3 y4
    unfold braidworkref19_add.l0
    repeat' first
    | (with_reducible exact ih0 _ _ _ _ _)
    | (with_reducible exact LeO.refl _)
    | (with_reducible exact LeO.none _)
    | (with_reducible refine LeO.ite ?_ ?_)
    | (with_reducible refine LeO.bind ?_ (fun _ => ?_))
    | exact ih0 _ _ _ _ _
    | exact LeO.none _
    | refine LeO.ite ?_ ?_
    | refine LeO.bind ?_ (fun _ => ?_)
theorem braidworkref19_add.mono : ∀ a0 a1 k, LeO (braidworkref19_add.f k a0 a1) (braidworkref19_add.f (k + 1) a0 a1) := by
 intro a0 a1 k
 have ih0 := braidworkref19_add.mono_l k
 unfold braidworkref19_add.f
 repeat' first
  | (with_reducible exact ih0 _ _ _ _ _)
  | (with_reducible exact LeO.refl _)
  | (with_reducible exact LeO.none _)
  | (with_reducible refine LeO.ite ?_ ?_)
  | (with_reducible refine LeO.bind ?_ (fun _ => ?_))
  | exact ih0 _ _ _ _ _
  | exact LeO.none _
  | refine LeO.ite ?_ ?_
  | refine LeO.bind ?_ (fun _ => ?_)
set_option maxHeartbeats 8000000 in
set_option maxRecDepth 100000 in
theorem braidworkref19_add.calls (k : Nat) (P0_ : Nat → Prop) (u9000_ : Value) (l0 : List Int) (a1 : Int) (r : List Int) (w0 w : World) (hB : Below w0.heap.size w0 w) (ho0 : Kd.R (Kd.int .i64) 3 w w0.heap.size P0_ u9000_ l0) (h : braidworkref19_add.f k l0 a1 = some r) :
 Calls Try.prog 78 #[u9000_, .int .i64 a1] w fun e w' => ∃ v0_ : Value, e = .returned (v0_) ∧ Kd.R (Kd.int .i64) 3 w' w0.heap.size (fun k_ => (P0_ k_ ∨ w.heap.size ≤ k_)) v0_ r ∧ Below w0.heap.size w0 w' ∧ Kept w w' (fun k_ => P0_ k_) := by
 have HO0 := Aside0.mk (show Kd.R (Kd.int .i64) 3 w w0.heap.size (fun k_ => (P0_ k_ ∨ w.heap.size ≤ k_)) u9000_ l0 from Kd.R_mono ho0 (fun k_ hk => (.inl hk)))
 have HK := Aside0.mk (Kept.refl w (fun k_ => P0_ k_))
 have HW0 := Aside0.mk hB.size
 have HB := Aside0.mk hB
 clear hB
 have H : (braidworkref19_add.l0 k l0 a1 ([] : List Int) false 0) = some r := h
 clear h
 have H' := Aside0.mk H
 clear H
 go_enter Try.func78, Try.ntmps78
 go_wp2
 go_loopg [5, 6, 7] k (fun kq v5 v6 v7 w' => ∃ (x5_1 : List Int) (x6_1 : Bool) (x7_1 : Int), v6 = .bool x6_1 ∧ v7 = .int .i64 x7_1 ∧ Aside0 (braidworkref19_add.l0 kq l0 a1 x5_1 x6_1 x7_1 = some r) ∧ Aside0 (kq ≤ k) ∧ Aside0 (Kd.R (Kd.int .i64) 3 w' w0.heap.size (fun k_ => (P0_ k_ ∨ w.heap.size ≤ k_) ∧ some k_ ≠ (v5 : Value).ownBlock) u9000_ l0) ∧ Aside0 (Kd.R (Kd.int .i64) 3 w' w0.heap.size (fun k_ => (P0_ k_ ∨ w.heap.size ≤ k_) ∧ some k_ ≠ (u9000_ : Value).ownBlock) v5 x5_1) ∧ Aside0 (Kept w w' (fun k_ => P0_ k_)) ∧ Aside0 (Below w0.heap.size w0 w'))
 case atStart => exact ⟨(([] : List Int)), (false), (0), (by first | rfl | (simp; done) | (simp [*]; done)), (by first | rfl | (simp; done) | (simp [*]; done)), H', ⟨Nat.le_refl _⟩, ⟨by (with_reducible repeat (first | apply Kd.R_alloc | apply Kd.R_drewN | apply Kd.R_drew)); exact Kd.R_mono HO0.out (fun _ hk => ⟨hk, (by simp [Value.ownBlock])⟩)⟩, ⟨by first | exact Kd.R_nil _ _ _ _ _ | exact Kd.N_nil _ _ _ _ _ | exact Kd.V_nil _ _ _ _ _ | exact Kd.Q_nil _ _ _ _ _ | exact Kd.S_nil _ _ _ _ _⟩, ⟨by repeat (first | (with_reducible first | exact HK.out | apply Kept.alloc | apply Kept.drewN | apply Kept.drew) | exact HK.out)⟩, ⟨by repeat (first | (with_reducible first | exact HB.out | apply below_alloc | apply pw_below_drewN | apply below_drew1) | exact HB.out)⟩⟩
 case round =>
  clear H'
  try clear p2
  obtain ⟨x5_1, x6_1, x7_1, rfl, rfl, HA, HK1, HO_0, HO_5, HK, HB⟩ := hrel
  cases gk with
  | zero => exact absurd HA.out (by simp [braidworkref19_add.l0])
  | succ k1 =>
   have H := HA.out
   clear HA
   simp only [braidworkref19_add.l0] at H
   by_cases c3 : x7_1 < (l0.length : Int)
   · rw [if_pos c3] at H
     have c3b0 : decide (x7_1 < (l0.length : Int)) = true := decide_eq_true c3
     clear c3
     by_cases c4 : 0 ≤ x7_1
     · rw [if_pos c4] at H
       have c4b0 : decide (0 ≤ x7_1) = true := decide_eq_true c4
       clear c4
       by_cases c5 : (rd l0 x7_1) = a1
       · rw [if_pos c5] at H
         have c5b0 : ((rd l0 x7_1) == a1) = true := beq_iff_eq.mpr c5
         have c5b1 : ((rd l0 x7_1) != a1) = false := bne_eq_false_iff_eq.mpr c5
         clear c5
         obtain rfl := Option.some.inj H
         obtain ⟨Ao6, co6, eo6⟩ := Kd.R_slice HO_0.out
         subst eo6
         have p304 : 0 ≤ (x7_1 : Int) := of_decide_eq_true (by first | (with_reducible assumption) | assumption)
         have q304 : x7_1 < (l0.length : Int) := of_decide_eq_true (by first | (with_reducible assumption) | assumption)
         obtain ⟨ad304, e304, hx304_0⟩ := Kd.at_int (Kd.R_reads' HO_0.out).2.2 x7_1 p304 q304
         cases e304
         replace p304 := eq_true p304
         replace q304 := eq_true q304
         go_wp2
         go_ret
         exact ⟨_, by first | rfl | (simp [errW_none, errW_some] <;> rfl) | (simp [*, errW_none, errW_some] <;> rfl), by (with_reducible repeat (first | apply Kd.R_alloc | apply Kd.R_drewN | apply Kd.R_drew)); exact Kd.R_mono HO_0.out (fun _ hk => hk.1), by repeat (first | (with_reducible first | exact HB.out | apply below_alloc | apply pw_below_drewN | apply below_drew1) | exact HB.out), by repeat (first | (with_reducible first | exact HK.out | apply Kept.alloc | apply Kept.drewN | apply Kept.drew) | exact HK.out)⟩
       · rw [if_neg c5] at H
         have c5b0 : ((rd l0 x7_1) == a1) = false := beq_eq_false_iff_ne.mpr c5
         have c5b1 : ((rd l0 x7_1) != a1) = true := bne_iff_ne.mpr c5
         by_cases c7 : x6_1 = true
         · subst c7
           have H1 : (if x5_1.length < 17592186044416 then (braidworkref19_add.l0 k1 l0 a1 (x5_1 ++ [rd l0 x7_1]) true (wrap64 (x7_1 + 1))) else (none)) = some r := by rw [if_pos rfl] at H; exact H
           clear H
           have H := H1
           clear H1
           by_cases c8 : x5_1.length < 17592186044416
           · rw [if_pos c8] at H
             have LMc8 := Aside0.mk c8
             clear c8
             obtain ⟨y306, hy306⟩ : ∃ y_ : List Int, y_ = (x5_1 ++ [rd l0 x7_1]) := ⟨_, rfl⟩
             replace H : (braidworkref19_add.l0 k1 l0 a1 y306 true (wrap64 (x7_1 + 1))) = some r := by first | (rw [hy306]; with_reducible exact H) | (have H2_ := (Option.bind_some _ _).symm.trans H; rw [hy306]; with_reducible exact H2_) | (have H2_ := (Option.bind_some _ _).symm.trans H; with_reducible exact H2_) | with_reducible exact H | (rw [hy306]; exact H) | exact H
             have Ny306 := Aside0.mk hy306
             clear hy306
             have H' := Aside0.mk H
             clear H
             obtain ⟨Ao9, co9, eo9⟩ := Kd.R_slice HO_0.out
             subst eo9
             have p304 : 0 ≤ (x7_1 : Int) := of_decide_eq_true (by first | (with_reducible assumption) | assumption)
             have q304 : x7_1 < (l0.length : Int) := of_decide_eq_true (by first | (with_reducible assumption) | assumption)
             obtain ⟨ad304, e304, hx304_0⟩ := Kd.at_int (Kd.R_reads' HO_0.out).2.2 x7_1 p304 q304
             cases e304
             replace p304 := eq_true p304
             replace q304 := eq_true q304
             have p305 : 0 ≤ (x7_1 : Int) := of_decide_eq_true (by first | (with_reducible assumption) | assumption)
             have q305 : x7_1 < (l0.length : Int) := of_decide_eq_true (by first | (with_reducible assumption) | assumption)
             obtain ⟨ad305, e305, hx305_0⟩ := Kd.at_int (Kd.R_reads' HO_0.out).2.2 x7_1 p305 q305
             obtain rfl : ad304 = ad305 := (by injection e305)
             replace p305 := eq_true p305
             replace q305 := eq_true q305
             go_wp2_with (first | ((with_reducible refine gate_builtin (b := .append) (xs := #[.tmp 35, .tmp 40]) rfl ?_); at_builtin; refine Kd.R_append (Kd.int .i64) (w0 := w0) w0.heap.size rfl (.tmp 35) (.tmp 40) 31 3 (.int .i64 0) 8 rfl Try.underlying31 info3 rfl (by decide) (by omega) u5 x5_1 (rd l0 x7_1) [.int .i64 (rd l0 x7_1)] (fun k_ => (P0_ k_ ∨ w.heap.size ≤ k_) ∧ some k_ ≠ (.slice (some ad304) l0.length co9 : Value).ownBlock) (fun _ => False) rfl rfl ?aP (fun _ hk => hk.elim) ?aF ?aO ?aB ?aS ?aL ?_; (case aP => exact rfl); (case aB => exact (by repeat (first | (with_reducible first | exact HB.out | apply below_alloc | apply pw_below_drewN | apply below_drew1) | exact HB.out))); (case aF => exact (fun k_ hk => ⟨(.inr (Nat.le_trans (by first | exact HK.out.1 | exact (show Kept w _ (fun k_ => P0_ k_) from by repeat (first | (with_reducible first | exact HK.out | apply Kept.alloc | apply Kept.drewN | apply Kept.drew) | exact HK.out)).1) hk)), Kd.fresh' (Kd.R_lt (by (with_reducible repeat (first | apply Kd.R_alloc | apply Kd.R_drewN | apply Kd.R_drew)); exact HO_0.out)) k_ hk⟩)); (case aO => exact (by (with_reducible repeat (first | apply Kd.R_alloc | apply Kd.R_drewN | apply Kd.R_drew)); exact HO_5.out)); (case aS => exact (below_size (by repeat (first | (with_reducible first | exact HB.out | apply below_alloc | apply pw_below_drewN | apply below_drew1) | exact HB.out)))); (case aL => have := LMc8.out; omega); intro v307 w10 ho hb hg hat; rw [← Ny306.out] at ho; have n0_ := Aside0.mk (Kd.R_after (ok := (fun k_ => (P0_ k_ ∨ w.heap.size ≤ k_))) (by (with_reducible repeat (first | apply Kd.R_alloc | apply Kd.R_drewN | apply Kd.R_drew)); exact HO_0.out) hg hat); have n1_ := Aside0.mk (hb); have n2_ := Aside0.mk (Kept.of_grown (S := (fun k_ => P0_ k_)) hg (by repeat (first | (with_reducible first | exact HK.out | apply Kept.alloc | apply Kept.drewN | apply Kept.drew) | exact HK.out)) (fun k_ e_ => (HO_5.out.1 k_ e_).1)); have n3_ := Aside0.mk (ho); clear HO_0; clear HB; clear HK; clear HO_5; have HO_0 := n0_; have HB := n1_; have HK := n2_; have HO308 := n3_; clear n0_ n1_ n2_ n3_; clear ho hb hg hat))
             go_roundg k1
             case measure => have := HK1.out; omega
             case rel => exact ⟨(y306), (true), (wrap64 (x7_1 + 1)), (by first | rfl | (simp; done) | (simp [*]; done)), (by first | rfl | (simp; done) | (simp [*]; done)), H', ⟨by have := HK1.out; omega⟩, ⟨by (with_reducible repeat (first | apply Kd.R_alloc | apply Kd.R_drewN | apply Kd.R_drew)); exact HO_0.out⟩, ⟨by (with_reducible repeat (first | apply Kd.R_alloc | apply Kd.R_drewN | apply Kd.R_drew)); exact HO308.out⟩, ⟨by repeat (first | (with_reducible first | exact HK.out | apply Kept.alloc | apply Kept.drewN | apply Kept.drew) | exact HK.out)⟩, ⟨by repeat (first | (with_reducible first | exact HB.out | apply below_alloc | apply pw_below_drewN | apply below_drew1) | exact HB.out)⟩⟩
           · rw [if_neg c8] at H
             exact absurd H (by simp)
         · replace c7 := Bool.eq_false_iff.mpr c7
           subst c7
           have H1 : (if (rd l0 x7_1) > a1 then (if x5_1.length < 17592186044416 then ((some (x5_1 ++ [a1] : List Int)).bind fun y310 => (if y310.length < 17592186044416 then (braidworkref19_add.l0 k1 l0 a1 (y310 ++ [rd l0 x7_1]) true (wrap64 (x7_1 + 1))) else (none))) else (none)) else (if x5_1.length < 17592186044416 then (braidworkref19_add.l0 k1 l0 a1 (x5_1 ++ [rd l0 x7_1]) false (wrap64 (x7_1 + 1))) else (none))) = some r := by rw [if_neg (show ¬ (false = true) by decide)] at H; exact H
           clear H
           have H := H1
           clear H1
           by_cases c11 : (rd l0 x7_1) > a1
           · rw [if_pos c11] at H
             have c11b0 : decide (a1 < (rd l0 x7_1)) = true := decide_eq_true c11
             clear c11
             by_cases c12 : x5_1.length < 17592186044416
             · rw [if_pos c12] at H
               have LMc12 := Aside0.mk c12
               clear c12
               obtain ⟨y310, hy310⟩ : ∃ y_ : List Int, y_ = (x5_1 ++ [a1]) := ⟨_, rfl⟩
               replace H : (if y310.length < 17592186044416 then (braidworkref19_add.l0 k1 l0 a1 (y310 ++ [rd l0 x7_1]) true (wrap64 (x7_1 + 1))) else (none)) = some r := by first | (rw [hy310]; with_reducible exact H) | (have H2_ := (Option.bind_some _ _).symm.trans H; rw [hy310]; with_reducible exact H2_) | (have H2_ := (Option.bind_some _ _).symm.trans H; with_reducible exact H2_) | with_reducible exact H | (rw [hy310]; exact H) | exact H
               have Ny310 := Aside0.mk hy310
               clear hy310
               by_cases c13 : y310.length < 17592186044416
               · rw [if_pos c13] at H
                 have LMc13 := Aside0.mk c13
                 clear c13
                 obtain ⟨y314, hy314⟩ : ∃ y_ : List Int, y_ = (y310 ++ [rd l0 x7_1]) := ⟨_, rfl⟩
                 replace H : (braidworkref19_add.l0 k1 l0 a1 y314 true (wrap64 (x7_1 + 1))) = some r := by first | (rw [hy314]; with_reducible exact H) | (have H2_ := (Option.bind_some _ _).symm.trans H; rw [hy314]; with_reducible exact H2_) | (have H2_ := (Option.bind_some _ _).symm.trans H; with_reducible exact H2_) | with_reducible exact H | (rw [hy314]; exact H) | exact H
                 have Ny314 := Aside0.mk hy314
                 clear hy314
                 have H' := Aside0.mk H
                 clear H
                 obtain ⟨Ao14, co14, eo14⟩ := Kd.R_slice HO_0.out
                 subst eo14
                 have p304 : 0 ≤ (x7_1 : Int) := of_decide_eq_true (by first | (with_reducible assumption) | assumption)
                 have q304 : x7_1 < (l0.length : Int) := of_decide_eq_true (by first | (with_reducible assumption) | assumption)
                 obtain ⟨ad304, e304, hx304_0⟩ := Kd.at_int (Kd.R_reads' HO_0.out).2.2 x7_1 p304 q304
                 cases e304
                 replace p304 := eq_true p304
                 replace q304 := eq_true q304
                 have p309 : 0 ≤ (x7_1 : Int) := of_decide_eq_true (by first | (with_reducible assumption) | assumption)
                 have q309 : x7_1 < (l0.length : Int) := of_decide_eq_true (by first | (with_reducible assumption) | assumption)
                 obtain ⟨ad309, e309, hx309_0⟩ := Kd.at_int (Kd.R_reads' HO_0.out).2.2 x7_1 p309 q309
                 obtain rfl : ad304 = ad309 := (by injection e309)
                 replace p309 := eq_true p309
                 replace q309 := eq_true q309
                 go_wp2_with (first | ((with_reducible refine gate_builtin (b := .append) (xs := #[.tmp 31, .tmp 33]) rfl ?_); at_builtin; refine Kd.R_append (Kd.int .i64) (w0 := w0) w0.heap.size rfl (.tmp 31) (.tmp 33) 31 3 (.int .i64 0) 8 rfl Try.underlying31 info3 rfl (by decide) (by omega) u5 x5_1 a1 [.int .i64 a1] (fun k_ => (P0_ k_ ∨ w.heap.size ≤ k_) ∧ some k_ ≠ (.slice (some ad304) l0.length co14 : Value).ownBlock) (fun _ => False) rfl rfl ?aP (fun _ hk => hk.elim) ?aF ?aO ?aB ?aS ?aL ?_; (case aP => exact rfl); (case aB => exact (by repeat (first | (with_reducible first | exact HB.out | apply below_alloc | apply pw_below_drewN | apply below_drew1) | exact HB.out))); (case aF => exact (fun k_ hk => ⟨(.inr (Nat.le_trans (by first | exact HK.out.1 | exact (show Kept w _ (fun k_ => P0_ k_) from by repeat (first | (with_reducible first | exact HK.out | apply Kept.alloc | apply Kept.drewN | apply Kept.drew) | exact HK.out)).1) hk)), Kd.fresh' (Kd.R_lt (by (with_reducible repeat (first | apply Kd.R_alloc | apply Kd.R_drewN | apply Kd.R_drew)); exact HO_0.out)) k_ hk⟩)); (case aO => exact (by (with_reducible repeat (first | apply Kd.R_alloc | apply Kd.R_drewN | apply Kd.R_drew)); exact HO_5.out)); (case aS => exact (below_size (by repeat (first | (with_reducible first | exact HB.out | apply below_alloc | apply pw_below_drewN | apply below_drew1) | exact HB.out)))); (case aL => have := LMc12.out; omega); intro v311 w15 ho hb hg hat; rw [← Ny310.out] at ho; have n0_ := Aside0.mk (Kd.R_after (ok := (fun k_ => (P0_ k_ ∨ w.heap.size ≤ k_))) (by (with_reducible repeat (first | apply Kd.R_alloc | apply Kd.R_drewN | apply Kd.R_drew)); exact HO_0.out) hg hat); have n1_ := Aside0.mk (hb); have n2_ := Aside0.mk (Kept.of_grown (S := (fun k_ => P0_ k_)) hg (by repeat (first | (with_reducible first | exact HK.out | apply Kept.alloc | apply Kept.drewN | apply Kept.drew) | exact HK.out)) (fun k_ e_ => (HO_5.out.1 k_ e_).1)); have n3_ := Aside0.mk (ho); clear HO_0; clear HB; clear HK; clear HO_5; have HO_0 := n0_; have HB := n1_; have HK := n2_; have HO312 := n3_; clear n0_ n1_ n2_ n3_; clear ho hb hg hat; have p313 : 0 ≤ (x7_1 : Int) := of_decide_eq_true (by first | (with_reducible assumption) | assumption); have q313 : x7_1 < (l0.length : Int) := of_decide_eq_true (by first | (with_reducible assumption) | assumption); obtain ⟨ad313, e313, hx313_0⟩ := Kd.at_int (Kd.R_reads' HO_0.out).2.2 x7_1 p313 q313; obtain rfl : ad304 = ad313 := (by injection e313); replace p313 := eq_true p313; replace q313 := eq_true q313) | ((with_reducible refine gate_builtin (b := .append) (xs := #[.tmp 35, .tmp 40]) rfl ?_); at_builtin; refine Kd.R_append (Kd.int .i64) (w0 := w0) w0.heap.size rfl (.tmp 35) (.tmp 40) 31 3 (.int .i64 0) 8 rfl Try.underlying31 info3 rfl (by decide) (by omega) v311 y310 (rd l0 x7_1) [.int .i64 (rd l0 x7_1)] (fun k_ => (P0_ k_ ∨ w.heap.size ≤ k_) ∧ some k_ ≠ (.slice (some ad304) l0.length co14 : Value).ownBlock) (fun _ => False) rfl rfl ?aP (fun _ hk => hk.elim) ?aF ?aO ?aB ?aS ?aL ?_; (case aP => exact rfl); (case aB => exact (by repeat (first | (with_reducible first | exact HB.out | apply below_alloc | apply pw_below_drewN | apply below_drew1) | exact HB.out))); (case aF => exact (fun k_ hk => ⟨(.inr (Nat.le_trans (by first | exact HK.out.1 | exact (show Kept w _ (fun k_ => P0_ k_) from by repeat (first | (with_reducible first | exact HK.out | apply Kept.alloc | apply Kept.drewN | apply Kept.drew) | exact HK.out)).1) hk)), Kd.fresh' (Kd.R_lt (by (with_reducible repeat (first | apply Kd.R_alloc | apply Kd.R_drewN | apply Kd.R_drew)); exact HO_0.out)) k_ hk⟩)); (case aO => exact (by (with_reducible repeat (first | apply Kd.R_alloc | apply Kd.R_drewN | apply Kd.R_drew)); exact HO312.out)); (case aS => exact (below_size (by repeat (first | (with_reducible first | exact HB.out | apply below_alloc | apply pw_below_drewN | apply below_drew1) | exact HB.out)))); (case aL => have := LMc13.out; omega); intro v315 w16 ho hb hg hat; rw [← Ny314.out] at ho; have n0_ := Aside0.mk (Kd.R_after (ok := (fun k_ => (P0_ k_ ∨ w.heap.size ≤ k_))) (by (with_reducible repeat (first | apply Kd.R_alloc | apply Kd.R_drewN | apply Kd.R_drew)); exact HO_0.out) hg hat); have n1_ := Aside0.mk (hb); have n2_ := Aside0.mk (Kept.of_grown (S := (fun k_ => P0_ k_)) hg (by repeat (first | (with_reducible first | exact HK.out | apply Kept.alloc | apply Kept.drewN | apply Kept.drew) | exact HK.out)) (fun k_ e_ => (HO312.out.1 k_ e_).1)); have n3_ := Aside0.mk (ho); clear HO_0; clear HB; clear HK; clear HO312; have HO_0 := n0_; have HB := n1_; have HK := n2_; have HO316 := n3_; clear n0_ n1_ n2_ n3_; clear ho hb hg hat))
                 go_roundg k1
                 case measure => have := HK1.out; omega
                 case rel => exact ⟨(y314), (true), (wrap64 (x7_1 + 1)), (by first | rfl | (simp; done) | (simp [*]; done)), (by first | rfl | (simp; done) | (simp [*]; done)), H', ⟨by have := HK1.out; omega⟩, ⟨by (with_reducible repeat (first | apply Kd.R_alloc | apply Kd.R_drewN | apply Kd.R_drew)); exact HO_0.out⟩, ⟨by (with_reducible repeat (first | apply Kd.R_alloc | apply Kd.R_drewN | apply Kd.R_drew)); exact HO316.out⟩, ⟨by repeat (first | (with_reducible first | exact HK.out | apply Kept.alloc | apply Kept.drewN | apply Kept.drew) | exact HK.out)⟩, ⟨by repeat (first | (with_reducible first | exact HB.out | apply below_alloc | apply pw_below_drewN | apply below_drew1) | exact HB.out)⟩⟩
               · rw [if_neg c13] at H
                 exact absurd H (by simp)
             · rw [if_neg c12] at H
               exact absurd H (by simp)
           · rw [if_neg c11] at H
             have c11b0 : decide (a1 < (rd l0 x7_1)) = false := decide_eq_false c11
             clear c11
             by_cases c17 : x5_1.length < 17592186044416
             · rw [if_pos c17] at H
               have LMc17 := Aside0.mk c17
               clear c17
               obtain ⟨y318, hy318⟩ : ∃ y_ : List Int, y_ = (x5_1 ++ [rd l0 x7_1]) := ⟨_, rfl⟩
               replace H : (braidworkref19_add.l0 k1 l0 a1 y318 false (wrap64 (x7_1 + 1))) = some r := by first | (rw [hy318]; with_reducible exact H) | (have H2_ := (Option.bind_some _ _).symm.trans H; rw [hy318]; with_reducible exact H2_) | (have H2_ := (Option.bind_some _ _).symm.trans H; with_reducible exact H2_) | with_reducible exact H | (rw [hy318]; exact H) | exact H
               have Ny318 := Aside0.mk hy318
               clear hy318
               have H' := Aside0.mk H
               clear H
               obtain ⟨Ao18, co18, eo18⟩ := Kd.R_slice HO_0.out
               subst eo18
               have p304 : 0 ≤ (x7_1 : Int) := of_decide_eq_true (by first | (with_reducible assumption) | assumption)
               have q304 : x7_1 < (l0.length : Int) := of_decide_eq_true (by first | (with_reducible assumption) | assumption)
               obtain ⟨ad304, e304, hx304_0⟩ := Kd.at_int (Kd.R_reads' HO_0.out).2.2 x7_1 p304 q304
               cases e304
               replace p304 := eq_true p304
               replace q304 := eq_true q304
               have p309 : 0 ≤ (x7_1 : Int) := of_decide_eq_true (by first | (with_reducible assumption) | assumption)
               have q309 : x7_1 < (l0.length : Int) := of_decide_eq_true (by first | (with_reducible assumption) | assumption)
               obtain ⟨ad309, e309, hx309_0⟩ := Kd.at_int (Kd.R_reads' HO_0.out).2.2 x7_1 p309 q309
               obtain rfl : ad304 = ad309 := (by injection e309)
               replace p309 := eq_true p309
               replace q309 := eq_true q309
               have p317 : 0 ≤ (x7_1 : Int) := of_decide_eq_true (by first | (with_reducible assumption) | assumption)
               have q317 : x7_1 < (l0.length : Int) := of_decide_eq_true (by first | (with_reducible assumption) | assumption)
               obtain ⟨ad317, e317, hx317_0⟩ := Kd.at_int (Kd.R_reads' HO_0.out).2.2 x7_1 p317 q317
               obtain rfl : ad304 = ad317 := (by injection e317)
               replace p317 := eq_true p317
               replace q317 := eq_true q317
               go_wp2_with (first | ((with_reducible refine gate_builtin (b := .append) (xs := #[.tmp 35, .tmp 40]) rfl ?_); at_builtin; refine Kd.R_append (Kd.int .i64) (w0 := w0) w0.heap.size rfl (.tmp 35) (.tmp 40) 31 3 (.int .i64 0) 8 rfl Try.underlying31 info3 rfl (by decide) (by omega) u5 x5_1 (rd l0 x7_1) [.int .i64 (rd l0 x7_1)] (fun k_ => (P0_ k_ ∨ w.heap.size ≤ k_) ∧ some k_ ≠ (.slice (some ad304) l0.length co18 : Value).ownBlock) (fun _ => False) rfl rfl ?aP (fun _ hk => hk.elim) ?aF ?aO ?aB ?aS ?aL ?_; (case aP => exact rfl); (case aB => exact (by repeat (first | (with_reducible first | exact HB.out | apply below_alloc | apply pw_below_drewN | apply below_drew1) | exact HB.out))); (case aF => exact (fun k_ hk => ⟨(.inr (Nat.le_trans (by first | exact HK.out.1 | exact (show Kept w _ (fun k_ => P0_ k_) from by repeat (first | (with_reducible first | exact HK.out | apply Kept.alloc | apply Kept.drewN | apply Kept.drew) | exact HK.out)).1) hk)), Kd.fresh' (Kd.R_lt (by (with_reducible repeat (first | apply Kd.R_alloc | apply Kd.R_drewN | apply Kd.R_drew)); exact HO_0.out)) k_ hk⟩)); (case aO => exact (by (with_reducible repeat (first | apply Kd.R_alloc | apply Kd.R_drewN | apply Kd.R_drew)); exact HO_5.out)); (case aS => exact (below_size (by repeat (first | (with_reducible first | exact HB.out | apply below_alloc | apply pw_below_drewN | apply below_drew1) | exact HB.out)))); (case aL => have := LMc17.out; omega); intro v319 w19 ho hb hg hat; rw [← Ny318.out] at ho; have n0_ := Aside0.mk (Kd.R_after (ok := (fun k_ => (P0_ k_ ∨ w.heap.size ≤ k_))) (by (with_reducible repeat (first | apply Kd.R_alloc | apply Kd.R_drewN | apply Kd.R_drew)); exact HO_0.out) hg hat); have n1_ := Aside0.mk (hb); have n2_ := Aside0.mk (Kept.of_grown (S := (fun k_ => P0_ k_)) hg (by repeat (first | (with_reducible first | exact HK.out | apply Kept.alloc | apply Kept.drewN | apply Kept.drew) | exact HK.out)) (fun k_ e_ => (HO_5.out.1 k_ e_).1)); have n3_ := Aside0.mk (ho); clear HO_0; clear HB; clear HK; clear HO_5; have HO_0 := n0_; have HB := n1_; have HK := n2_; have HO320 := n3_; clear n0_ n1_ n2_ n3_; clear ho hb hg hat))
               go_roundg k1
               case measure => have := HK1.out; omega
               case rel => exact ⟨(y318), (false), (wrap64 (x7_1 + 1)), (by first | rfl | (simp; done) | (simp [*]; done)), (by first | rfl | (simp; done) | (simp [*]; done)), H', ⟨by have := HK1.out; omega⟩, ⟨by (with_reducible repeat (first | apply Kd.R_alloc | apply Kd.R_drewN | apply Kd.R_drew)); exact HO_0.out⟩, ⟨by (with_reducible repeat (first | apply Kd.R_alloc | apply Kd.R_drewN | apply Kd.R_drew)); exact HO320.out⟩, ⟨by repeat (first | (with_reducible first | exact HK.out | apply Kept.alloc | apply Kept.drewN | apply Kept.drew) | exact HK.out)⟩, ⟨by repeat (first | (with_reducible first | exact HB.out | apply below_alloc | apply pw_below_drewN | apply below_drew1) | exact HB.out)⟩⟩
             · rw [if_neg c17] at H
               exact absurd H (by simp)
     · rw [if_neg c4] at H
       exact absurd H (by simp)
   · rw [if_neg c3] at H
     have c3b0 : decide (x7_1 < (l0.length : Int)) = false := decide_eq_false c3
     clear c3
     by_cases c20 : x6_1 = true
     · subst c20
       have H1 : (some x5_1) = some r := by rw [if_pos rfl] at H; exact H
       clear H
       have H := H1
       clear H1
       obtain rfl := Option.some.inj H
       obtain ⟨Ao21, co21, eo21⟩ := Kd.R_slice HO_0.out
       subst eo21
       go_wp2
       go_ret
       exact ⟨_, by first | rfl | (simp [errW_none, errW_some] <;> rfl) | (simp [*, errW_none, errW_some] <;> rfl), by (with_reducible repeat (first | apply Kd.R_alloc | apply Kd.R_drewN | apply Kd.R_drew)); exact Kd.R_mono HO_5.out (fun _ hk => hk.1), by repeat (first | (with_reducible first | exact HB.out | apply below_alloc | apply pw_below_drewN | apply below_drew1) | exact HB.out), by repeat (first | (with_reducible first | exact HK.out | apply Kept.alloc | apply Kept.drewN | apply Kept.drew) | exact HK.out)⟩
     · replace c20 := Bool.eq_false_iff.mpr c20
       subst c20
       have H1 : (if x5_1.length < 17592186044416 then (some (x5_1 ++ [a1])) else (none)) = some r := by rw [if_neg (show ¬ (false = true) by decide)] at H; exact H
       clear H
       have H := H1
       clear H1
       by_cases c22 : x5_1.length < 17592186044416
       · rw [if_pos c22] at H
         have LMc22 := Aside0.mk c22
         clear c22
         obtain ⟨y301, hy301⟩ : ∃ y_ : List Int, y_ = (x5_1 ++ [a1]) := ⟨_, rfl⟩
         replace H : (some y301) = some r := by first | (rw [hy301]; with_reducible exact H) | (have H2_ := (Option.bind_some _ _).symm.trans H; rw [hy301]; with_reducible exact H2_) | (have H2_ := (Option.bind_some _ _).symm.trans H; with_reducible exact H2_) | with_reducible exact H | (rw [hy301]; exact H) | exact H
         have Ny301 := Aside0.mk hy301
         clear hy301
         obtain rfl := Option.some.inj H
         obtain ⟨Ao23, co23, eo23⟩ := Kd.R_slice HO_0.out
         subst eo23
         go_wp2_with (first | ((with_reducible refine gate_builtin (b := .append) (xs := #[.tmp 44, .tmp 46]) rfl ?_); at_builtin; refine Kd.R_append (Kd.int .i64) (w0 := w0) w0.heap.size rfl (.tmp 44) (.tmp 46) 31 3 (.int .i64 0) 8 rfl Try.underlying31 info3 rfl (by decide) (by omega) u5 x5_1 a1 [.int .i64 a1] (fun k_ => (P0_ k_ ∨ w.heap.size ≤ k_) ∧ some k_ ≠ (.slice Ao23 l0.length co23 : Value).ownBlock) (fun _ => False) rfl rfl ?aP (fun _ hk => hk.elim) ?aF ?aO ?aB ?aS ?aL ?_; (case aP => exact rfl); (case aB => exact (by repeat (first | (with_reducible first | exact HB.out | apply below_alloc | apply pw_below_drewN | apply below_drew1) | exact HB.out))); (case aF => exact (fun k_ hk => ⟨(.inr (Nat.le_trans (by first | exact HK.out.1 | exact (show Kept w _ (fun k_ => P0_ k_) from by repeat (first | (with_reducible first | exact HK.out | apply Kept.alloc | apply Kept.drewN | apply Kept.drew) | exact HK.out)).1) hk)), Kd.fresh' (Kd.R_lt (by (with_reducible repeat (first | apply Kd.R_alloc | apply Kd.R_drewN | apply Kd.R_drew)); exact HO_0.out)) k_ hk⟩)); (case aO => exact (by (with_reducible repeat (first | apply Kd.R_alloc | apply Kd.R_drewN | apply Kd.R_drew)); exact HO_5.out)); (case aS => exact (below_size (by repeat (first | (with_reducible first | exact HB.out | apply below_alloc | apply pw_below_drewN | apply below_drew1) | exact HB.out)))); (case aL => have := LMc22.out; omega); intro v302 w24 ho hb hg hat; rw [← Ny301.out] at ho; have n0_ := Aside0.mk (Kd.R_after (ok := (fun k_ => (P0_ k_ ∨ w.heap.size ≤ k_))) (by (with_reducible repeat (first | apply Kd.R_alloc | apply Kd.R_drewN | apply Kd.R_drew)); exact HO_0.out) hg hat); have n1_ := Aside0.mk (hb); have n2_ := Aside0.mk (Kept.of_grown (S := (fun k_ => P0_ k_)) hg (by repeat (first | (with_reducible first | exact HK.out | apply Kept.alloc | apply Kept.drewN | apply Kept.drew) | exact HK.out)) (fun k_ e_ => (HO_5.out.1 k_ e_).1)); have n3_ := Aside0.mk (ho); clear HO_0; clear HB; clear HK; clear HO_5; have HO_0 := n0_; have HB := n1_; have HK := n2_; have HO303 := n3_; clear n0_ n1_ n2_ n3_; clear ho hb hg hat))
         go_ret
         exact ⟨_, by first | rfl | (simp [errW_none, errW_some] <;> rfl) | (simp [*, errW_none, errW_some] <;> rfl), by (with_reducible repeat (first | apply Kd.R_alloc | apply Kd.R_drewN | apply Kd.R_drew)); exact Kd.R_mono HO303.out (fun _ hk => hk.1), by repeat (first | (with_reducible first | exact HB.out | apply below_alloc | apply pw_below_drewN | apply below_drew1) | exact HB.out), by repeat (first | (with_reducible first | exact HK.out | apply Kept.alloc | apply Kept.drewN | apply Kept.drew) | exact HK.out)⟩
       · rw [if_neg c22] at H
         exact absurd H (by simp)
/-! ### braidworkref19_Prev: function 27 -/
def braidworkref19_Prev.l0 : Nat → Int → List Int → List (S40) → Int → Option (List Int)
 | 0, _, _, _, _ => none
 | k + 1, x2, x7, x8, x9 => if x9 < (x8.length : Int) then (if 0 ≤ x9 then (if ((rd_T40 x8 x9).f1) = x2 then ((braidworkref19_add.f k x7 ((rd_T40 x8 x9).f0)).bind fun t327 => (braidworkref19_Prev.l0 k x2 t327 x8 (wrap64 (x9 + 1)))) else (braidworkref19_Prev.l0 k x2 x7 x8 (wrap64 (x9 + 1)))) else (none)) else (some x7)
def braidworkref19_Prev.f (k : Nat) (a0_0 : Int) (l0_1 : List Bool) (l0_2 : List (List (S40))) (a1 : Int) (a2 : Int) : Option (List Int) := (braidworkref19_edges.f a0_0 l0_1 l0_2 a1).bind fun t322 => (braidworkref19_Prev.l0 k a2 ([] : List Int) t322 0)
theorem braidworkref19_Prev.mono_l : ∀ k, (∀ y0 y1 y2 y3, LeO (braidworkref19_Prev.l0 k y0 y1 y2 y3) (braidworkref19_Prev.l0 (k + 1) y0 y1 y2 y3))
 | 0 => fun _ _ _ _ r h => by simp [braidworkref19_Prev.l0] at h
 | k + 1 => by
  have ih0 := braidworkref19_Prev.mono_l k
  · intro y0 y1 y2 y3
    unfold braidworkref19_Prev.l0
    repeat' first
    | (with_reducible exact ih0 _ _ _ _)
    | (with_reducible exact braidworkref19_add.mono _ _ _)
    | (with_reducible exact LeO.refl _)
    | (with_reducible exact LeO.none _)
    | (with_reducible refine LeO.ite ?_ ?_)
    | (with_reducible refine LeO.bind ?_ (fun _ => ?_))
    | exact ih0 _ _ _ _
    | exact braidworkref19_add.mono _ _ _
    | exact LeO.none _
    | refine LeO.ite ?_ ?_
    | refine LeO.bind ?_ (fun _ => ?_)
theorem braidworkref19_Prev.mono : ∀ a0 a1 a2 a3 a4 k, LeO (braidworkref19_Prev.f k a0 a1 a2 a3 a4) (braidworkref19_Prev.f (k + 1) a0 a1 a2 a3 a4) := by
 intro a0 a1 a2 a3 a4 k
 have ih0 := braidworkref19_Prev.mono_l k
 unfold braidworkref19_Prev.f
 repeat' first
  | (with_reducible exact ih0 _ _ _ _)
  | (with_reducible exact braidworkref19_add.mono _ _ _)
  | (with_reducible exact LeO.refl _)
  | (with_reducible exact LeO.none _)
  | (with_reducible refine LeO.ite ?_ ?_)
  | (with_reducible refine LeO.bind ?_ (fun _ => ?_))
  | exact ih0 _ _ _ _
  | exact braidworkref19_add.mono _ _ _
  | exact LeO.none _
  | refine LeO.ite ?_ ?_
  | refine LeO.bind ?_ (fun _ => ?_)
set_option maxHeartbeats 8000000 in
set_option maxRecDepth 100000 in
theorem braidworkref19_Prev.calls (k : Nat) (a0_0 : Int) (A0_1 : Option Addr) (c0_1 : Nat) (l0_1 : List Bool) (A0_2 : Option Addr) (c0_2 : Nat) (l0_2 : List (List (S40))) (a1 : Int) (a2 : Int) (r : List Int) (w : World) (hr0_1 : Kd.C Kd.bool w A0_1 l0_1.length l0_1) (hc0_1 : l0_1.length ≤ c0_1) (hr0_2 : Kd.C (Kd.slice 40 k40) w A0_2 l0_2.length l0_2) (hc0_2 : l0_2.length ≤ c0_2) (h : braidworkref19_Prev.f k a0_0 l0_1 l0_2 a1 a2 = some r) :
 Calls Try.prog 27 #[.agg #[.int .u64 a0_0, .slice A0_1 l0_1.length c0_1, .slice A0_2 l0_2.length c0_2], .int .i64 a1, .int .i64 a2] w fun e w' => ∃ v0_ : Value, e = .returned (v0_) ∧ Kd.R (Kd.int .i64) 3 w' w.heap.size (fun _ => True) v0_ r ∧ Below w.heap.size w w' := by
 have hu29 := Try.underlying29
 have HR0_1 := Aside0.mk hr0_1
 have HC0_1 := Aside0.mk hc0_1
 clear hr0_1 hc0_1
 have HR0_2 := Aside0.mk hr0_2
 have HC0_2 := Aside0.mk hc0_2
 clear hr0_2 hc0_2
 have HB := Aside0.mk (Below.refl w.heap.size w)
 have H : ((braidworkref19_edges.f a0_0 l0_1 l0_2 a1).bind fun t322 => (braidworkref19_Prev.l0 k a2 ([] : List Int) t322 0)) = some r := h
 clear h
 replace H := Option.bind_eq_some_iff.mp H
 obtain ⟨t322, A40, H⟩ := H
 replace H : (braidworkref19_Prev.l0 k a2 ([] : List Int) t322 0) = some r := H
 have A4 := Aside0.mk A40
 clear A40
 have H' := Aside0.mk H
 clear H
 go_enter Try.func27, Try.ntmps27
 go_wp2_with (first | ((with_reducible refine gate_dst (N := 3) rfl ?_); refine box_event ?hg (N := 3) ?hd (cs := #[.int .u64 a0_0, .slice A0_1 l0_1.length c0_1, .slice A0_2 l0_2.length c0_2]) (t := 29) ?hr ?_; (case hd => rfl); (case hg => rfl); (case hr => first | (go_simp; done) | (go_simp; rfl)); intro gb321 hg w5 hbox hb; have n0_ := Aside0.mk (below_step (by repeat (first | (with_reducible first | exact HB.out | apply below_alloc | apply pw_below_drewN | apply below_drew1) | exact HB.out)) hb); have n1_ := Aside0.mk (hbox); have n2_ := Aside0.mk ((by rw [hg]; exact (below_size (by repeat (first | (with_reducible first | exact HB.out | apply below_alloc | apply pw_below_drewN | apply below_drew1) | exact HB.out))) : w.heap.size ≤ gb321)); have n3_ := Aside0.mk ((by rw [hg]; exact (below_size (by repeat (first | (with_reducible first | exact HB.out | apply below_alloc | apply pw_below_drewN | apply below_drew1) | exact HB.out))) : w.heap.size ≤ gb321)); clear HB; have HB := n0_; have BK321 := n1_; have GW321 := n2_; have GE321 := n3_; clear n0_ n1_ n2_ n3_; clear hb hbox hg; have hcz6_0 : w5.cell? ⟨gb321, 0, none⟩ = some (.int .u64 a0_0) := (blk_cell BK321.out 0).trans rfl; have hcz6_1 : w5.cell? ⟨gb321, 1, none⟩ = some (.slice A0_1 l0_1.length c0_1) := (blk_cell BK321.out 1).trans rfl; have hcz6_2 : w5.cell? ⟨gb321, 2, none⟩ = some (.slice A0_2 l0_2.length c0_2) := (blk_cell BK321.out 2).trans rfl; have hfz6_0 := blk_frozen BK321.out 0; have hfz6_1 := blk_frozen BK321.out 1; have hfz6_2 := blk_frozen BK321.out 2) | ((with_reducible refine gate_callee (f := 77) rfl ?_); refine goesL_ (some 12) rfl rfl Try.func77 (by kernel_rfl) rfl #[.agg #[.int .u64 a0_0, .slice A0_1 l0_1.length c0_1, .slice A0_2 l0_2.length c0_2], .int .i64 a1] rfl (by (try simp only [List.map_toArray, List.map_cons, List.map_nil]); first | done | rfl | (simp only [List.length_drop, List.length_take]; rfl)) ?_; (with_reducible refine (braidworkref19_edges.calls a0_0 _ _ l0_1 (fun k_ => k_ < w.heap.size) _ _ l0_2 a1 t322 _ ?side1 ?side2 ?side3 A4.out).mono ?_); (case side1 => repeat (first | exact (Kd.C_below HR0_1.out HB.out) | (with_reducible refine Kd.C_alloc ?_ _) | (with_reducible refine Kd.C_drewN ?_ _) | (with_reducible refine Kd.C_drew ?_))); (case side2 => exact HC0_1.out); (case side3 => exact Kd.V_mk HC0_2.out (Kd.F_below (Kd.C_F (Kd.heap_slice 40 k40_heap) HR0_2.out) (by repeat (first | (with_reducible first | exact HB.out | apply below_alloc | apply pw_below_drewN | apply below_drew1 | refine below_set ?_ GE321.out) | exact HB.out)))); rintro e w7 ⟨v323, rfl, ho0, hb⟩; refine ⟨_, rfl, ?_⟩; have n0_ := Aside0.mk (Kd.V_lower (Kd.V_mono (ok' := fun k_ => k_ ≠ gb321) ho0 (fun k_ hk_ => Or.elim hk_ (fun hs_ => fun e_ => Nat.not_le.2 hs_ (by rw [e_]; exact GW321.out)) (fun hn_ => (Kd.freshB (g := gb321) (o := .cells #[.int .u64 a0_0, .slice A0_1 l0_1.length c0_1, .slice A0_2 l0_2.length c0_2] 29 (0, 0)) (by (with_reducible repeat (first | refine blk_drewN ?_ _ | refine blk_drew ?_ | refine blk_alloc ?_ _)); exact BK321.out) k_ hn_)))) (below_size (by repeat (first | (with_reducible first | exact HB.out | apply below_alloc | apply pw_below_drewN | apply below_drew1 | refine below_set ?_ GE321.out) | exact HB.out)))); have n1_ := Aside0.mk (blk_below (g := gb321) (o := .cells #[.int .u64 a0_0, .slice A0_1 l0_1.length c0_1, .slice A0_2 l0_2.length c0_2] 29 (0, 0)) (by (with_reducible repeat (first | refine blk_drewN ?_ _ | refine blk_drew ?_ | refine blk_alloc ?_ _)); exact BK321.out) hb); have n2_ := Aside0.mk (below_step (by repeat (first | (with_reducible first | exact HB.out | apply below_alloc | apply pw_below_drewN | apply below_drew1 | refine below_set ?_ GE321.out) | exact HB.out)) hb); clear BK321; clear HB; have HO324 := n0_; have BK321 := n1_; have HB := n2_; clear n0_ n1_ n2_; (try clear hb); (try clear hb2); (try clear hk); (try clear hi); (try clear ho0)))
 go_loopg [7, 9] k (fun kq v7 v9 w' => ∃ (x7_1 : List Int) (x9_1 : Int), v9 = .int .i64 x9_1 ∧ Aside0 (braidworkref19_Prev.l0 kq a2 x7_1 t322 x9_1 = some r) ∧ Aside0 (kq ≤ k) ∧ Aside0 (Kd.R (Kd.int .i64) 3 w' w.heap.size (fun _ => True) v7 x7_1) ∧ Aside0 (Kd.V k40 40 w' w.heap.size (fun k_ => some k_ ≠ (v7 : Value).ownBlock ∧ k_ ≠ gb321) v323 t322) ∧ Aside0 (w'.heap[gb321]? = some (.cells #[.int .u64 a0_0, (.slice A0_1 l0_1.length c0_1), (.slice A0_2 l0_2.length c0_2)] 29 (0, 0))) ∧ Aside0 (Below w.heap.size w w'))
 case atStart => exact ⟨(([] : List Int)), (0), (by first | rfl | (simp; done) | (simp [*]; done)), H', ⟨Nat.le_refl _⟩, ⟨by first | exact Kd.R_nil _ _ _ _ _ | exact Kd.N_nil _ _ _ _ _ | exact Kd.V_nil _ _ _ _ _ | exact Kd.Q_nil _ _ _ _ _ | exact Kd.S_nil _ _ _ _ _⟩, ⟨by (with_reducible repeat (first | apply Kd.V_alloc | apply Kd.V_drewN | apply Kd.V_drew)); exact Kd.V_mono HO324.out (fun _ hk => ⟨(by simp [Value.ownBlock]), hk⟩)⟩, ⟨by (with_reducible repeat (first | refine blk_drewN ?_ _ | refine blk_drew ?_ | refine blk_alloc ?_ _)); exact BK321.out⟩, ⟨by repeat (first | (with_reducible first | exact HB.out | apply below_alloc | apply pw_below_drewN | apply below_drew1 | refine below_set ?_ GE321.out) | exact HB.out)⟩⟩
 case round =>
  clear H'
  try clear c2
  try clear p2
  try clear c7
  try clear hcz6_0
  try clear hcz6_1
  try clear hcz6_2
  try clear hfz6_0
  try clear hfz6_1
  try clear hfz6_2
  obtain ⟨x7_1, x9_1, rfl, HA, HK1, HO_7, HO_8, BK321, HB⟩ := hrel
  cases gk with
  | zero => exact absurd HA.out (by simp [braidworkref19_Prev.l0])
  | succ k1 =>
   have H := HA.out
   clear HA
   simp only [braidworkref19_Prev.l0] at H
   by_cases c8 : x9_1 < (t322.length : Int)
   · rw [if_pos c8] at H
     have c8b0 : decide (x9_1 < (t322.length : Int)) = true := decide_eq_true c8
     clear c8
     by_cases c9 : 0 ≤ x9_1
     · rw [if_pos c9] at H
       have c9b0 : decide (0 ≤ x9_1) = true := decide_eq_true c9
       clear c9
       by_cases c10 : ((rd_T40 t322 x9_1).f1) = a2
       · rw [if_pos c10] at H
         have c10b0 : (((rd_T40 t322 x9_1).f1) == a2) = true := beq_iff_eq.mpr c10
         have c10b1 : (((rd_T40 t322 x9_1).f1) != a2) = false := bne_eq_false_iff_eq.mpr c10
         clear c10
         replace H := Option.bind_eq_some_iff.mp H
         obtain ⟨t327, A110, H⟩ := H
         replace H : (braidworkref19_Prev.l0 k1 a2 t327 t322 (wrap64 (x9_1 + 1))) = some r := H
         have A11 := Aside0.mk A110
         clear A110
         have H' := Aside0.mk H
         clear H
         obtain ⟨Ao12, co12, eo12⟩ := Kd.V_slice HO_8.out
         subst eo12
         have p325 : 0 ≤ (x9_1 : Int) := of_decide_eq_true (by first | (with_reducible assumption) | assumption)
         have q325 : x9_1 < (t322.length : Int) := of_decide_eq_true (by first | (with_reducible assumption) | assumption)
         obtain ⟨ad325, e325, hx325_0, hx325_1⟩ := at_T40 (Kd.V_reads' HO_8.out).2.2 x9_1 p325 q325
         cases e325
         replace p325 := eq_true p325
         replace q325 := eq_true q325
         have p326 : 0 ≤ (x9_1 : Int) := of_decide_eq_true (by first | (with_reducible assumption) | assumption)
         have q326 : x9_1 < (t322.length : Int) := of_decide_eq_true (by first | (with_reducible assumption) | assumption)
         obtain ⟨ad326, e326, hx326_0, hx326_1⟩ := at_T40 (Kd.V_reads' HO_8.out).2.2 x9_1 p326 q326
         obtain rfl : ad325 = ad326 := (by injection e326)
         replace p326 := eq_true p326
         replace q326 := eq_true q326
         obtain ⟨Ao13, co13, eo13⟩ := Kd.R_slice HO_7.out
         subst eo13
         go_wp2_with (first | ((with_reducible refine gate_callee (f := 78) rfl ?_); refine goesL_ (some 32) rfl rfl Try.func78 (by kernel_rfl) rfl #[.slice Ao13 x7_1.length co13, .int .i64 ((rd_T40 t322 x9_1).f0)] rfl (by (try simp only [List.map_toArray, List.map_cons, List.map_nil]); first | done | rfl | (simp only [List.length_drop, List.length_take]; rfl)) ?_; (with_reducible refine (braidworkref19_add.calls k1 (fun k_ => some k_ = (.slice Ao13 x7_1.length co13 : Value).ownBlock) (.slice Ao13 x7_1.length co13) x7_1 ((rd_T40 t322 x9_1).f0) t327 w _ ?side1 ?side2 A11.out).mono ?_); (case side1 => repeat (first | (with_reducible first | exact HB.out | apply below_alloc | apply pw_below_drewN | apply below_drew1 | refine below_set ?_ GE321.out) | exact HB.out)); (case side2 => exact Kd.R_tight rfl HO_7.out); rintro e w14 ⟨v328, rfl, ho0, hb, hkp⟩; refine ⟨_, rfl, ?_⟩; have n0_ := Aside0.mk (Kd.V_mono (ok' := fun k_ => k_ ≠ gb321 ∧ some k_ ≠ (v328 : Value).ownBlock) (Kd.V_keptB (HO_8.out) hkp (fun k_ hk_ hs_ => (hk_.1) hs_)) (fun k_ hk_ => ⟨hk_.1.2, fun e_ => Or.elim (ho0.1 k_ e_.symm) (fun hs_ => hk_.2.1 hs_) (fun hn_ => Nat.not_le.2 hk_.2.2 hn_)⟩)); have n1_ := Aside0.mk (blk_kept (by (with_reducible repeat (first | refine blk_drewN ?_ _ | refine blk_drew ?_ | refine blk_alloc ?_ _)); exact BK321.out) hkp (fun hs_ => (fun e_ => (Kd.R_ne HO_7.out BK321.out (by decide)) e_) hs_)); have n2_ := Aside0.mk (Kd.R_mono (ok' := fun k_ => True) ho0 (fun k_ hk_ => trivial)); have n3_ := Aside0.mk (hb); clear HO_8; clear BK321; clear HB; clear HO_7; have HO_8 := n0_; have BK321 := n1_; have HO329 := n2_; have HB := n3_; clear n0_ n1_ n2_ n3_; (try clear hb); (try clear hkp); (try clear ho0)))
         go_roundg k1
         case measure => have := HK1.out; omega
         case rel => exact ⟨(t327), (wrap64 (x9_1 + 1)), (by first | rfl | (simp; done) | (simp [*]; done)), H', ⟨by have := HK1.out; omega⟩, ⟨by (with_reducible repeat (first | apply Kd.R_alloc | apply Kd.R_drewN | apply Kd.R_drew)); exact HO329.out⟩, ⟨by (with_reducible repeat (first | apply Kd.V_alloc | apply Kd.V_drewN | apply Kd.V_drew)); exact Kd.V_mono HO_8.out (fun _ hk => ⟨hk.2, hk.1⟩)⟩, ⟨by (with_reducible repeat (first | refine blk_drewN ?_ _ | refine blk_drew ?_ | refine blk_alloc ?_ _)); exact BK321.out⟩, ⟨by repeat (first | (with_reducible first | exact HB.out | apply below_alloc | apply pw_below_drewN | apply below_drew1 | refine below_set ?_ GE321.out) | exact HB.out)⟩⟩
       · rw [if_neg c10] at H
         have c10b0 : (((rd_T40 t322 x9_1).f1) == a2) = false := beq_eq_false_iff_ne.mpr c10
         have c10b1 : (((rd_T40 t322 x9_1).f1) != a2) = true := bne_iff_ne.mpr c10
         have H' := Aside0.mk H
         clear H
         obtain ⟨Ao15, co15, eo15⟩ := Kd.V_slice HO_8.out
         subst eo15
         have p325 : 0 ≤ (x9_1 : Int) := of_decide_eq_true (by first | (with_reducible assumption) | assumption)
         have q325 : x9_1 < (t322.length : Int) := of_decide_eq_true (by first | (with_reducible assumption) | assumption)
         obtain ⟨ad325, e325, hx325_0, hx325_1⟩ := at_T40 (Kd.V_reads' HO_8.out).2.2 x9_1 p325 q325
         cases e325
         replace p325 := eq_true p325
         replace q325 := eq_true q325
         go_wp2
         go_roundg k1
         case measure => have := HK1.out; omega
         case rel => exact ⟨(x7_1), (wrap64 (x9_1 + 1)), (by first | rfl | (simp; done) | (simp [*]; done)), H', ⟨by have := HK1.out; omega⟩, ⟨by (with_reducible repeat (first | apply Kd.R_alloc | apply Kd.R_drewN | apply Kd.R_drew)); exact HO_7.out⟩, ⟨by (with_reducible repeat (first | apply Kd.V_alloc | apply Kd.V_drewN | apply Kd.V_drew)); exact HO_8.out⟩, ⟨by (with_reducible repeat (first | refine blk_drewN ?_ _ | refine blk_drew ?_ | refine blk_alloc ?_ _)); exact BK321.out⟩, ⟨by repeat (first | (with_reducible first | exact HB.out | apply below_alloc | apply pw_below_drewN | apply below_drew1 | refine below_set ?_ GE321.out) | exact HB.out)⟩⟩
     · rw [if_neg c9] at H
       exact absurd H (by simp)
   · rw [if_neg c8] at H
     have c8b0 : decide (x9_1 < (t322.length : Int)) = false := decide_eq_false c8
     clear c8
     obtain rfl := Option.some.inj H
     obtain ⟨Ao16, co16, eo16⟩ := Kd.V_slice HO_8.out
     subst eo16
     go_wp2
     go_ret
     exact ⟨_, by first | rfl | (simp [errW_none, errW_some] <;> rfl) | (simp [*, errW_none, errW_some] <;> rfl), by (with_reducible repeat (first | apply Kd.R_alloc | apply Kd.R_drewN | apply Kd.R_drew)); exact HO_7.out, by repeat (first | (with_reducible first | exact HB.out | apply below_alloc | apply pw_below_drewN | apply below_drew1 | refine below_set ?_ GE321.out) | exact HB.out)⟩
/-! ### braidworkref19_Next: function 25 -/
def braidworkref19_Next.l0 : Nat → Int → List Int → List (S40) → Int → Option (List Int)
 | 0, _, _, _, _ => none
 | k + 1, x2, x7, x8, x9 => if x9 < (x8.length : Int) then (if 0 ≤ x9 then (if ((rd_T40 x8 x9).f0) = x2 then ((braidworkref19_add.f k x7 ((rd_T40 x8 x9).f1)).bind fun t336 => (braidworkref19_Next.l0 k x2 t336 x8 (wrap64 (x9 + 1)))) else (braidworkref19_Next.l0 k x2 x7 x8 (wrap64 (x9 + 1)))) else (none)) else (some x7)
def braidworkref19_Next.f (k : Nat) (a0_0 : Int) (l0_1 : List Bool) (l0_2 : List (List (S40))) (a1 : Int) (a2 : Int) : Option (List Int) := (braidworkref19_edges.f a0_0 l0_1 l0_2 a1).bind fun t331 => (braidworkref19_Next.l0 k a2 ([] : List Int) t331 0)
theorem braidworkref19_Next.mono_l : ∀ k, (∀ y0 y1 y2 y3, LeO (braidworkref19_Next.l0 k y0 y1 y2 y3) (braidworkref19_Next.l0 (k + 1) y0 y1 y2 y3))
 | 0 => fun _ _ _ _ r h => by simp [braidworkref19_Next.l0] at h
 | k + 1 => by
  have ih0 := braidworkref19_Next.mono_l k
  · intro y0 y1 y2 y3
    unfold braidworkref19_Next.l0
    repeat' first
    | (with_reducible exact ih0 _ _ _ _)
    | (with_reducible exact braidworkref19_add.mono _ _ _)
    | (with_reducible exact LeO.refl _)
    | (with_reducible exact LeO.none _)
    | (with_reducible refine LeO.ite ?_ ?_)
    | (with_reducible refine LeO.bind ?_ (fun _ => ?_))
    | exact ih0 _ _ _ _
    | exact braidworkref19_add.mono _ _ _
    | exact LeO.none _
    | refine LeO.ite ?_ ?_
    | refine LeO.bind ?_ (fun _ => ?_)
theorem braidworkref19_Next.mono : ∀ a0 a1 a2 a3 a4 k, LeO (braidworkref19_Next.f k a0 a1 a2 a3 a4) (braidworkref19_Next.f (k + 1) a0 a1 a2 a3 a4) := by
 intro a0 a1 a2 a3 a4 k
 have ih0 := braidworkref19_Next.mono_l k
 unfold braidworkref19_Next.f
 repeat' first
  | (with_reducible exact ih0 _ _ _ _)
  | (with_reducible exact braidworkref19_add.mono _ _ _)
  | (with_reducible exact LeO.refl _)
  | (with_reducible exact LeO.none _)
  | (with_reducible refine LeO.ite ?_ ?_)
  | (with_reducible refine LeO.bind ?_ (fun _ => ?_))
  | exact ih0 _ _ _ _
  | exact braidworkref19_add.mono _ _ _
  | exact LeO.none _
  | refine LeO.ite ?_ ?_
  | refine LeO.bind ?_ (fun _ => ?_)
set_option maxHeartbeats 8000000 in
set_option maxRecDepth 100000 in
theorem braidworkref19_Next.calls (k : Nat) (a0_0 : Int) (A0_1 : Option Addr) (c0_1 : Nat) (l0_1 : List Bool) (A0_2 : Option Addr) (c0_2 : Nat) (l0_2 : List (List (S40))) (a1 : Int) (a2 : Int) (r : List Int) (w : World) (hr0_1 : Kd.C Kd.bool w A0_1 l0_1.length l0_1) (hc0_1 : l0_1.length ≤ c0_1) (hr0_2 : Kd.C (Kd.slice 40 k40) w A0_2 l0_2.length l0_2) (hc0_2 : l0_2.length ≤ c0_2) (h : braidworkref19_Next.f k a0_0 l0_1 l0_2 a1 a2 = some r) :
 Calls Try.prog 25 #[.agg #[.int .u64 a0_0, .slice A0_1 l0_1.length c0_1, .slice A0_2 l0_2.length c0_2], .int .i64 a1, .int .i64 a2] w fun e w' => ∃ v0_ : Value, e = .returned (v0_) ∧ Kd.R (Kd.int .i64) 3 w' w.heap.size (fun _ => True) v0_ r ∧ Below w.heap.size w w' := by
 have hu29 := Try.underlying29
 have HR0_1 := Aside0.mk hr0_1
 have HC0_1 := Aside0.mk hc0_1
 clear hr0_1 hc0_1
 have HR0_2 := Aside0.mk hr0_2
 have HC0_2 := Aside0.mk hc0_2
 clear hr0_2 hc0_2
 have HB := Aside0.mk (Below.refl w.heap.size w)
 have H : ((braidworkref19_edges.f a0_0 l0_1 l0_2 a1).bind fun t331 => (braidworkref19_Next.l0 k a2 ([] : List Int) t331 0)) = some r := h
 clear h
 replace H := Option.bind_eq_some_iff.mp H
 obtain ⟨t331, A40, H⟩ := H
 replace H : (braidworkref19_Next.l0 k a2 ([] : List Int) t331 0) = some r := H
 have A4 := Aside0.mk A40
 clear A40
 have H' := Aside0.mk H
 clear H
 go_enter Try.func25, Try.ntmps25
 go_wp2_with (first | ((with_reducible refine gate_dst (N := 3) rfl ?_); refine box_event ?hg (N := 3) ?hd (cs := #[.int .u64 a0_0, .slice A0_1 l0_1.length c0_1, .slice A0_2 l0_2.length c0_2]) (t := 29) ?hr ?_; (case hd => rfl); (case hg => rfl); (case hr => first | (go_simp; done) | (go_simp; rfl)); intro gb330 hg w5 hbox hb; have n0_ := Aside0.mk (below_step (by repeat (first | (with_reducible first | exact HB.out | apply below_alloc | apply pw_below_drewN | apply below_drew1) | exact HB.out)) hb); have n1_ := Aside0.mk (hbox); have n2_ := Aside0.mk ((by rw [hg]; exact (below_size (by repeat (first | (with_reducible first | exact HB.out | apply below_alloc | apply pw_below_drewN | apply below_drew1) | exact HB.out))) : w.heap.size ≤ gb330)); have n3_ := Aside0.mk ((by rw [hg]; exact (below_size (by repeat (first | (with_reducible first | exact HB.out | apply below_alloc | apply pw_below_drewN | apply below_drew1) | exact HB.out))) : w.heap.size ≤ gb330)); clear HB; have HB := n0_; have BK330 := n1_; have GW330 := n2_; have GE330 := n3_; clear n0_ n1_ n2_ n3_; clear hb hbox hg; have hcz6_0 : w5.cell? ⟨gb330, 0, none⟩ = some (.int .u64 a0_0) := (blk_cell BK330.out 0).trans rfl; have hcz6_1 : w5.cell? ⟨gb330, 1, none⟩ = some (.slice A0_1 l0_1.length c0_1) := (blk_cell BK330.out 1).trans rfl; have hcz6_2 : w5.cell? ⟨gb330, 2, none⟩ = some (.slice A0_2 l0_2.length c0_2) := (blk_cell BK330.out 2).trans rfl; have hfz6_0 := blk_frozen BK330.out 0; have hfz6_1 := blk_frozen BK330.out 1; have hfz6_2 := blk_frozen BK330.out 2) | ((with_reducible refine gate_callee (f := 77) rfl ?_); refine goesL_ (some 12) rfl rfl Try.func77 (by kernel_rfl) rfl #[.agg #[.int .u64 a0_0, .slice A0_1 l0_1.length c0_1, .slice A0_2 l0_2.length c0_2], .int .i64 a1] rfl (by (try simp only [List.map_toArray, List.map_cons, List.map_nil]); first | done | rfl | (simp only [List.length_drop, List.length_take]; rfl)) ?_; (with_reducible refine (braidworkref19_edges.calls a0_0 _ _ l0_1 (fun k_ => k_ < w.heap.size) _ _ l0_2 a1 t331 _ ?side1 ?side2 ?side3 A4.out).mono ?_); (case side1 => repeat (first | exact (Kd.C_below HR0_1.out HB.out) | (with_reducible refine Kd.C_alloc ?_ _) | (with_reducible refine Kd.C_drewN ?_ _) | (with_reducible refine Kd.C_drew ?_))); (case side2 => exact HC0_1.out); (case side3 => exact Kd.V_mk HC0_2.out (Kd.F_below (Kd.C_F (Kd.heap_slice 40 k40_heap) HR0_2.out) (by repeat (first | (with_reducible first | exact HB.out | apply below_alloc | apply pw_below_drewN | apply below_drew1 | refine below_set ?_ GE330.out) | exact HB.out)))); rintro e w7 ⟨v332, rfl, ho0, hb⟩; refine ⟨_, rfl, ?_⟩; have n0_ := Aside0.mk (Kd.V_lower (Kd.V_mono (ok' := fun k_ => k_ ≠ gb330) ho0 (fun k_ hk_ => Or.elim hk_ (fun hs_ => fun e_ => Nat.not_le.2 hs_ (by rw [e_]; exact GW330.out)) (fun hn_ => (Kd.freshB (g := gb330) (o := .cells #[.int .u64 a0_0, .slice A0_1 l0_1.length c0_1, .slice A0_2 l0_2.length c0_2] 29 (0, 0)) (by (with_reducible repeat (first | refine blk_drewN ?_ _ | refine blk_drew ?_ | refine blk_alloc ?_ _)); exact BK330.out) k_ hn_)))) (below_size (by repeat (first | (with_reducible first | exact HB.out | apply below_alloc | apply pw_below_drewN | apply below_drew1 | refine below_set ?_ GE330.out) | exact HB.out)))); have n1_ := Aside0.mk (blk_below (g := gb330) (o := .cells #[.int .u64 a0_0, .slice A0_1 l0_1.length c0_1, .slice A0_2 l0_2.length c0_2] 29 (0, 0)) (by (with_reducible repeat (first | refine blk_drewN ?_ _ | refine blk_drew ?_ | refine blk_alloc ?_ _)); exact BK330.out) hb); have n2_ := Aside0.mk (below_step (by repeat (first | (with_reducible first | exact HB.out | apply below_alloc | apply pw_below_drewN | apply below_drew1 | refine below_set ?_ GE330.out) | exact HB.out)) hb); clear BK330; clear HB; have HO333 := n0_; have BK330 := n1_; have HB := n2_; clear n0_ n1_ n2_; (try clear hb); (try clear hb2); (try clear hk); (try clear hi); (try clear ho0)))
 go_loopg [7, 9] k (fun kq v7 v9 w' => ∃ (x7_1 : List Int) (x9_1 : Int), v9 = .int .i64 x9_1 ∧ Aside0 (braidworkref19_Next.l0 kq a2 x7_1 t331 x9_1 = some r) ∧ Aside0 (kq ≤ k) ∧ Aside0 (Kd.R (Kd.int .i64) 3 w' w.heap.size (fun _ => True) v7 x7_1) ∧ Aside0 (Kd.V k40 40 w' w.heap.size (fun k_ => some k_ ≠ (v7 : Value).ownBlock ∧ k_ ≠ gb330) v332 t331) ∧ Aside0 (w'.heap[gb330]? = some (.cells #[.int .u64 a0_0, (.slice A0_1 l0_1.length c0_1), (.slice A0_2 l0_2.length c0_2)] 29 (0, 0))) ∧ Aside0 (Below w.heap.size w w'))
 case atStart => exact ⟨(([] : List Int)), (0), (by first | rfl | (simp; done) | (simp [*]; done)), H', ⟨Nat.le_refl _⟩, ⟨by first | exact Kd.R_nil _ _ _ _ _ | exact Kd.N_nil _ _ _ _ _ | exact Kd.V_nil _ _ _ _ _ | exact Kd.Q_nil _ _ _ _ _ | exact Kd.S_nil _ _ _ _ _⟩, ⟨by (with_reducible repeat (first | apply Kd.V_alloc | apply Kd.V_drewN | apply Kd.V_drew)); exact Kd.V_mono HO333.out (fun _ hk => ⟨(by simp [Value.ownBlock]), hk⟩)⟩, ⟨by (with_reducible repeat (first | refine blk_drewN ?_ _ | refine blk_drew ?_ | refine blk_alloc ?_ _)); exact BK330.out⟩, ⟨by repeat (first | (with_reducible first | exact HB.out | apply below_alloc | apply pw_below_drewN | apply below_drew1 | refine below_set ?_ GE330.out) | exact HB.out)⟩⟩
 case round =>
  clear H'
  try clear c2
  try clear p2
  try clear c7
  try clear hcz6_0
  try clear hcz6_1
  try clear hcz6_2
  try clear hfz6_0
  try clear hfz6_1
  try clear hfz6_2
  obtain ⟨x7_1, x9_1, rfl, HA, HK1, HO_7, HO_8, BK330, HB⟩ := hrel
  cases gk with
  | zero => exact absurd HA.out (by simp [braidworkref19_Next.l0])
  | succ k1 =>
   have H := HA.out
   clear HA
   simp only [braidworkref19_Next.l0] at H
   by_cases c8 : x9_1 < (t331.length : Int)
   · rw [if_pos c8] at H
     have c8b0 : decide (x9_1 < (t331.length : Int)) = true := decide_eq_true c8
     clear c8
     by_cases c9 : 0 ≤ x9_1
     · rw [if_pos c9] at H
       have c9b0 : decide (0 ≤ x9_1) = true := decide_eq_true c9
       clear c9
       by_cases c10 : ((rd_T40 t331 x9_1).f0) = a2
       · rw [if_pos c10] at H
         have c10b0 : (((rd_T40 t331 x9_1).f0) == a2) = true := beq_iff_eq.mpr c10
         have c10b1 : (((rd_T40 t331 x9_1).f0) != a2) = false := bne_eq_false_iff_eq.mpr c10
         clear c10
         replace H := Option.bind_eq_some_iff.mp H
         obtain ⟨t336, A110, H⟩ := H
         replace H : (braidworkref19_Next.l0 k1 a2 t336 t331 (wrap64 (x9_1 + 1))) = some r := H
         have A11 := Aside0.mk A110
         clear A110
         have H' := Aside0.mk H
         clear H
         obtain ⟨Ao12, co12, eo12⟩ := Kd.V_slice HO_8.out
         subst eo12
         have p334 : 0 ≤ (x9_1 : Int) := of_decide_eq_true (by first | (with_reducible assumption) | assumption)
         have q334 : x9_1 < (t331.length : Int) := of_decide_eq_true (by first | (with_reducible assumption) | assumption)
         obtain ⟨ad334, e334, hx334_0, hx334_1⟩ := at_T40 (Kd.V_reads' HO_8.out).2.2 x9_1 p334 q334
         cases e334
         replace p334 := eq_true p334
         replace q334 := eq_true q334
         have p335 : 0 ≤ (x9_1 : Int) := of_decide_eq_true (by first | (with_reducible assumption) | assumption)
         have q335 : x9_1 < (t331.length : Int) := of_decide_eq_true (by first | (with_reducible assumption) | assumption)
         obtain ⟨ad335, e335, hx335_0, hx335_1⟩ := at_T40 (Kd.V_reads' HO_8.out).2.2 x9_1 p335 q335
         obtain rfl : ad334 = ad335 := (by injection e335)
         replace p335 := eq_true p335
         replace q335 := eq_true q335
         obtain ⟨Ao13, co13, eo13⟩ := Kd.R_slice HO_7.out
         subst eo13
         go_wp2_with (first | ((with_reducible refine gate_callee (f := 78) rfl ?_); refine goesL_ (some 32) rfl rfl Try.func78 (by kernel_rfl) rfl #[.slice Ao13 x7_1.length co13, .int .i64 ((rd_T40 t331 x9_1).f1)] rfl (by (try simp only [List.map_toArray, List.map_cons, List.map_nil]); first | done | rfl | (simp only [List.length_drop, List.length_take]; rfl)) ?_; (with_reducible refine (braidworkref19_add.calls k1 (fun k_ => some k_ = (.slice Ao13 x7_1.length co13 : Value).ownBlock) (.slice Ao13 x7_1.length co13) x7_1 ((rd_T40 t331 x9_1).f1) t336 w _ ?side1 ?side2 A11.out).mono ?_); (case side1 => repeat (first | (with_reducible first | exact HB.out | apply below_alloc | apply pw_below_drewN | apply below_drew1 | refine below_set ?_ GE330.out) | exact HB.out)); (case side2 => exact Kd.R_tight rfl HO_7.out); rintro e w14 ⟨v337, rfl, ho0, hb, hkp⟩; refine ⟨_, rfl, ?_⟩; have n0_ := Aside0.mk (Kd.V_mono (ok' := fun k_ => k_ ≠ gb330 ∧ some k_ ≠ (v337 : Value).ownBlock) (Kd.V_keptB (HO_8.out) hkp (fun k_ hk_ hs_ => (hk_.1) hs_)) (fun k_ hk_ => ⟨hk_.1.2, fun e_ => Or.elim (ho0.1 k_ e_.symm) (fun hs_ => hk_.2.1 hs_) (fun hn_ => Nat.not_le.2 hk_.2.2 hn_)⟩)); have n1_ := Aside0.mk (blk_kept (by (with_reducible repeat (first | refine blk_drewN ?_ _ | refine blk_drew ?_ | refine blk_alloc ?_ _)); exact BK330.out) hkp (fun hs_ => (fun e_ => (Kd.R_ne HO_7.out BK330.out (by decide)) e_) hs_)); have n2_ := Aside0.mk (Kd.R_mono (ok' := fun k_ => True) ho0 (fun k_ hk_ => trivial)); have n3_ := Aside0.mk (hb); clear HO_8; clear BK330; clear HB; clear HO_7; have HO_8 := n0_; have BK330 := n1_; have HO338 := n2_; have HB := n3_; clear n0_ n1_ n2_ n3_; (try clear hb); (try clear hkp); (try clear ho0)))
         go_roundg k1
         case measure => have := HK1.out; omega
         case rel => exact ⟨(t336), (wrap64 (x9_1 + 1)), (by first | rfl | (simp; done) | (simp [*]; done)), H', ⟨by have := HK1.out; omega⟩, ⟨by (with_reducible repeat (first | apply Kd.R_alloc | apply Kd.R_drewN | apply Kd.R_drew)); exact HO338.out⟩, ⟨by (with_reducible repeat (first | apply Kd.V_alloc | apply Kd.V_drewN | apply Kd.V_drew)); exact Kd.V_mono HO_8.out (fun _ hk => ⟨hk.2, hk.1⟩)⟩, ⟨by (with_reducible repeat (first | refine blk_drewN ?_ _ | refine blk_drew ?_ | refine blk_alloc ?_ _)); exact BK330.out⟩, ⟨by repeat (first | (with_reducible first | exact HB.out | apply below_alloc | apply pw_below_drewN | apply below_drew1 | refine below_set ?_ GE330.out) | exact HB.out)⟩⟩
       · rw [if_neg c10] at H
         have c10b0 : (((rd_T40 t331 x9_1).f0) == a2) = false := beq_eq_false_iff_ne.mpr c10
         have c10b1 : (((rd_T40 t331 x9_1).f0) != a2) = true := bne_iff_ne.mpr c10
         have H' := Aside0.mk H
         clear H
         obtain ⟨Ao15, co15, eo15⟩ := Kd.V_slice HO_8.out
         subst eo15
         have p334 : 0 ≤ (x9_1 : Int) := of_decide_eq_true (by first | (with_reducible assumption) | assumption)
         have q334 : x9_1 < (t331.length : Int) := of_decide_eq_true (by first | (with_reducible assumption) | assumption)
         obtain ⟨ad334, e334, hx334_0, hx334_1⟩ := at_T40 (Kd.V_reads' HO_8.out).2.2 x9_1 p334 q334
         cases e334
         replace p334 := eq_true p334
         replace q334 := eq_true q334
         go_wp2
         go_roundg k1
         case measure => have := HK1.out; omega
         case rel => exact ⟨(x7_1), (wrap64 (x9_1 + 1)), (by first | rfl | (simp; done) | (simp [*]; done)), H', ⟨by have := HK1.out; omega⟩, ⟨by (with_reducible repeat (first | apply Kd.R_alloc | apply Kd.R_drewN | apply Kd.R_drew)); exact HO_7.out⟩, ⟨by (with_reducible repeat (first | apply Kd.V_alloc | apply Kd.V_drewN | apply Kd.V_drew)); exact HO_8.out⟩, ⟨by (with_reducible repeat (first | refine blk_drewN ?_ _ | refine blk_drew ?_ | refine blk_alloc ?_ _)); exact BK330.out⟩, ⟨by repeat (first | (with_reducible first | exact HB.out | apply below_alloc | apply pw_below_drewN | apply below_drew1 | refine below_set ?_ GE330.out) | exact HB.out)⟩⟩
     · rw [if_neg c9] at H
       exact absurd H (by simp)
   · rw [if_neg c8] at H
     have c8b0 : decide (x9_1 < (t331.length : Int)) = false := decide_eq_false c8
     clear c8
     obtain rfl := Option.some.inj H
     obtain ⟨Ao16, co16, eo16⟩ := Kd.V_slice HO_8.out
     subst eo16
     go_wp2
     go_ret
     exact ⟨_, by first | rfl | (simp [errW_none, errW_some] <;> rfl) | (simp [*, errW_none, errW_some] <;> rfl), by (with_reducible repeat (first | apply Kd.R_alloc | apply Kd.R_drewN | apply Kd.R_drew)); exact HO_7.out, by repeat (first | (with_reducible first | exact HB.out | apply below_alloc | apply pw_below_drewN | apply below_drew1 | refine below_set ?_ GE330.out) | exact HB.out)⟩
/-! ### braidworkref19_Has: function 79 -/
def braidworkref19_Has.l0 : Nat → List Int → Int → Int → Option (Bool)
 | 0, _, _, _ => none
 | k + 1, x0, x1, x5 => if x5 < (x0.length : Int) then (if 0 ≤ x5 then (if (rd x0 x5) = x1 then (some true) else (braidworkref19_Has.l0 k x0 x1 (wrap64 (x5 + 1)))) else (none)) else (some false)
def braidworkref19_Has.f (k : Nat) (l0 : List Int) (a1 : Int) : Option (Bool) := braidworkref19_Has.l0 k l0 a1 0
theorem braidworkref19_Has.mono_l : ∀ k, (∀ y0 y1 y2, LeO (braidworkref19_Has.l0 k y0 y1 y2) (braidworkref19_Has.l0 (k + 1) y0 y1 y2))
 | 0 => fun _ _ _ r h => by simp [braidworkref19_Has.l0] at h
 | k + 1 => by
  have ih0 := braidworkref19_Has.mono_l k
  · intro y0 y1 y2
    unfold braidworkref19_Has.l0
    repeat' first
    | (with_reducible exact ih0 _ _ _)
    | (with_reducible exact LeO.refl _)
    | (with_reducible exact LeO.none _)
    | (with_reducible refine LeO.ite ?_ ?_)
    | (with_reducible refine LeO.bind ?_ (fun _ => ?_))
    | exact ih0 _ _ _
    | exact LeO.none _
    | refine LeO.ite ?_ ?_
    | refine LeO.bind ?_ (fun _ => ?_)
theorem braidworkref19_Has.mono : ∀ a0 a1 k, LeO (braidworkref19_Has.f k a0 a1) (braidworkref19_Has.f (k + 1) a0 a1) := by
 intro a0 a1 k
 have ih0 := braidworkref19_Has.mono_l k
 unfold braidworkref19_Has.f
 repeat' first
  | (with_reducible exact ih0 _ _ _)
  | (with_reducible exact LeO.refl _)
  | (with_reducible exact LeO.none _)
  | (with_reducible refine LeO.ite ?_ ?_)
  | (with_reducible refine LeO.bind ?_ (fun _ => ?_))
  | exact ih0 _ _ _
  | exact LeO.none _
  | refine LeO.ite ?_ ?_
  | refine LeO.bind ?_ (fun _ => ?_)
set_option maxHeartbeats 8000000 in
set_option maxRecDepth 100000 in
theorem braidworkref19_Has.calls (k : Nat) (A0 : Option Addr) (c0 : Nat) (l0 : List Int) (a1 : Int) (r : Bool) (w : World) (hr0 : Kd.C (Kd.int .i64) w A0 l0.length l0) (hc0 : l0.length ≤ c0) (h : braidworkref19_Has.f k l0 a1 = some r) :
 Calls Try.prog 79 #[.slice A0 l0.length c0, .int .i64 a1] w fun e w' => e = .returned (.bool r) ∧ Drawn0 w w' := by
 have HR0 := Aside0.mk hr0
 have HC0 := Aside0.mk hc0
 clear hr0 hc0
 have H : (braidworkref19_Has.l0 k l0 a1 0) = some r := h
 clear h
 have H' := Aside0.mk H
 clear H
 go_enter Try.func79, Try.ntmps79
 go_wp2
 go_loopg [5] k (fun kq v5 w' => ∃ (x5_1 : Int), v5 = .int .i64 x5_1 ∧ Aside0 (braidworkref19_Has.l0 kq l0 a1 x5_1 = some r) ∧ Aside0 (kq ≤ k) ∧ Drawn0 w w')
 case atStart => exact ⟨(0), (by first | rfl | (simp; done) | (simp [*]; done)), H', ⟨Nat.le_refl _⟩, by repeat (first | exact Drawn0.refl _ | apply Drawn0.step)⟩
 case round =>
  clear H'
  try clear p2
  obtain ⟨x5_1, rfl, HA, HK1, ⟨m1, rfl⟩⟩ := hrel
  cases gk with
  | zero => exact absurd HA.out (by simp [braidworkref19_Has.l0])
  | succ k1 =>
   have H := HA.out
   clear HA
   simp only [braidworkref19_Has.l0] at H
   by_cases c3 : x5_1 < (l0.length : Int)
   · rw [if_pos c3] at H
     have c3b0 : decide (x5_1 < (l0.length : Int)) = true := decide_eq_true c3
     clear c3
     by_cases c4 : 0 ≤ x5_1
     · rw [if_pos c4] at H
       have c4b0 : decide (0 ≤ x5_1) = true := decide_eq_true c4
       clear c4
       by_cases c5 : (rd l0 x5_1) = a1
       · rw [if_pos c5] at H
         have c5b0 : ((rd l0 x5_1) == a1) = true := beq_iff_eq.mpr c5
         have c5b1 : ((rd l0 x5_1) != a1) = false := bne_eq_false_iff_eq.mpr c5
         clear c5
         obtain rfl := Option.some.inj H
         have p339 : 0 ≤ (x5_1 : Int) := of_decide_eq_true (by first | (with_reducible assumption) | assumption)
         have q339 : x5_1 < (l0.length : Int) := of_decide_eq_true (by first | (with_reducible assumption) | assumption)
         obtain ⟨ad339, e339, hx339_0⟩ := Kd.at_int HR0.out x5_1 p339 q339
         cases e339
         replace p339 := eq_true p339
         replace q339 := eq_true q339
         go_wp2
         go_ret
         exact ⟨by first | rfl | (simp; done) | (simp [*]; done), by repeat (first | exact Drawn0.refl _ | apply Drawn0.step)⟩
       · rw [if_neg c5] at H
         have c5b0 : ((rd l0 x5_1) == a1) = false := beq_eq_false_iff_ne.mpr c5
         have c5b1 : ((rd l0 x5_1) != a1) = true := bne_iff_ne.mpr c5
         have H' := Aside0.mk H
         clear H
         have p339 : 0 ≤ (x5_1 : Int) := of_decide_eq_true (by first | (with_reducible assumption) | assumption)
         have q339 : x5_1 < (l0.length : Int) := of_decide_eq_true (by first | (with_reducible assumption) | assumption)
         obtain ⟨ad339, e339, hx339_0⟩ := Kd.at_int HR0.out x5_1 p339 q339
         cases e339
         replace p339 := eq_true p339
         replace q339 := eq_true q339
         go_wp2
         go_roundg k1
         case measure => have := HK1.out; omega
         case rel => exact ⟨(wrap64 (x5_1 + 1)), (by first | rfl | (simp; done) | (simp [*]; done)), H', ⟨by have := HK1.out; omega⟩, by repeat (first | exact Drawn0.refl _ | apply Drawn0.step)⟩
     · rw [if_neg c4] at H
       exact absurd H (by simp)
   · rw [if_neg c3] at H
     have c3b0 : decide (x5_1 < (l0.length : Int)) = false := decide_eq_false c3
     clear c3
     obtain rfl := Option.some.inj H
     go_wp2
     go_ret
     exact ⟨by first | rfl | (simp; done) | (simp [*]; done), by repeat (first | exact Drawn0.refl _ | apply Drawn0.step)⟩
end Go.Proofs.Ytkkfpmgmicfkfaa.X
/- Printed by a program of this session's own (wip/tools/xprint.py) out of the translation: functions as plain Lean, and their walks. -/
namespace Go.Proofs.Ytkkfpmgmicfkfaa.X
open Go.RowKit Go.Proofs.YtkkfpmgmicfkfaaW.PrintWords Go.Proofs.YtkkfpmgmicfkfaaW.PrintLast Go.Proofs.YtkkfpmgmicfkfaaW.PrintMore
attribute [local go_sem] max2_int min2_int max_two min_two max_three min_three max_four min_four   -- for this text's walks alone
set_option linter.unusedVariables false
set_option linter.unusedSimpArgs false
attribute [local go_sem high] eqA40
/-! ### topo_edges: function 94 -/
def topo_edges.f (a0_0 : Int) (l0_1 : List Bool) (l0_2 : List (List (S40))) (a1 : Int) : Option ((List (S40))) := (topo_within.f a1 0 (wrap64 ((l0_2.length : Int) - 1))).bind fun t447 => (if t447 = true then (if 0 ≤ a1 then (if a1 < (l0_2.length : Int) then (some (rd_L5 l0_2 a1)) else (none)) else (none)) else (some ([] : List (S40))))
set_option maxHeartbeats 8000000 in
set_option maxRecDepth 100000 in
theorem topo_edges.calls (a0_0 : Int) (A0_1 : Option Addr) (c0_1 : Nat) (l0_1 : List Bool) (P0_2_ : Nat → Prop) (A0_2 : Option Addr) (c0_2 : Nat) (l0_2 : List (List (S40))) (a1 : Int) (r : List (S40)) (w : World) (hr0_1 : Kd.C Kd.bool w A0_1 l0_1.length l0_1) (hc0_1 : l0_1.length ≤ c0_1) (hs0_2 : Kd.V (Kd.slice 40 k40) 38 w w.heap.size (fun k_ => P0_2_ k_) (.slice A0_2 l0_2.length c0_2) l0_2) (h : topo_edges.f a0_0 l0_1 l0_2 a1 = some r) :
 Calls Try.prog 94 #[.agg #[.int .u64 a0_0, .slice A0_1 l0_1.length c0_1, .slice A0_2 l0_2.length c0_2], .int .i64 a1] w fun e w' => ∃ v0_ : Value, e = .returned (v0_) ∧ Kd.V k40 40 w' w.heap.size (fun k_ => (P0_2_ k_ ∨ w.heap.size ≤ k_)) v0_ r ∧ Below w.heap.size w w' := by
 have hu29 := Try.underlying29
 have HR0_1 := Aside0.mk hr0_1
 have HC0_1 := Aside0.mk hc0_1
 clear hr0_1 hc0_1
 have HO0_2 := Aside0.mk (show Kd.V (Kd.slice 40 k40) 38 w w.heap.size (fun k_ => (P0_2_ k_ ∨ w.heap.size ≤ k_)) (.slice A0_2 l0_2.length c0_2) l0_2 from Kd.V_mono hs0_2 (fun k_ hk => .inl hk))
 have HB := Aside0.mk (Below.refl w.heap.size w)
 have H : ((topo_within.f a1 0 (wrap64 ((l0_2.length : Int) - 1))).bind fun t447 => (if t447 = true then (if 0 ≤ a1 then (if a1 < (l0_2.length : Int) then (some (rd_L5 l0_2 a1)) else (none)) else (none)) else (some ([] : List (S40))))) = some r := h
 clear h
 replace H := Option.bind_eq_some_iff.mp H
 obtain ⟨t447, A30, H⟩ := H
 replace H : (if t447 = true then (if 0 ≤ a1 then (if a1 < (l0_2.length : Int) then (some (rd_L5 l0_2 a1)) else (none)) else (none)) else (some ([] : List (S40)))) = some r := H
 have A3 := Aside0.mk A30
 clear A30
 by_cases c4 : t447 = true
 · subst c4
   have H1 : (if 0 ≤ a1 then (if a1 < (l0_2.length : Int) then (some (rd_L5 l0_2 a1)) else (none)) else (none)) = some r := by rw [if_pos rfl] at H; exact H
   clear H
   have H := H1
   clear H1
   by_cases c5 : 0 ≤ a1
   · rw [if_pos c5] at H
     have c5b0 : decide (0 ≤ a1) = true := decide_eq_true c5
     clear c5
     by_cases c6 : a1 < (l0_2.length : Int)
     · rw [if_pos c6] at H
       have c6b0 : decide (a1 < (l0_2.length : Int)) = true := decide_eq_true c6
       clear c6
       obtain rfl := Option.some.inj H
       go_enter Try.func94, Try.ntmps94
       go_wp2_with (first | ((with_reducible refine gate_dst (N := 2) rfl ?_); refine box_event ?hg (N := 2) ?hd (cs := #[.int .u64 a0_0, .slice A0_1 l0_1.length c0_1, .slice A0_2 l0_2.length c0_2]) (t := 29) ?hr ?_; (case hd => rfl); (case hg => rfl); (case hr => first | (go_simp; done) | (go_simp; rfl)); intro gb446 hg w7 hbox hb; have n0_ := Aside0.mk (Kd.V_below (Kd.V_elderB (by (with_reducible repeat (first | apply Kd.V_alloc | apply Kd.V_drewN | apply Kd.V_drew)); exact HO0_2.out) gb446 (Nat.le_of_eq hg.symm)) hb); have n1_ := Aside0.mk (below_step (by repeat (first | (with_reducible first | exact HB.out | apply below_alloc | apply pw_below_drewN | apply below_drew1) | exact HB.out)) hb); have n2_ := Aside0.mk (hbox); have n3_ := Aside0.mk ((by rw [hg]; exact (below_size (by repeat (first | (with_reducible first | exact HB.out | apply below_alloc | apply pw_below_drewN | apply below_drew1) | exact HB.out))) : w.heap.size ≤ gb446)); have n4_ := Aside0.mk ((by rw [hg]; exact (below_size (by repeat (first | (with_reducible first | exact HB.out | apply below_alloc | apply pw_below_drewN | apply below_drew1) | exact HB.out))) : w.heap.size ≤ gb446)); clear HO0_2; clear HB; have HO0_2 := n0_; have HB := n1_; have BK446 := n2_; have GW446 := n3_; have GE446 := n4_; clear n0_ n1_ n2_ n3_ n4_; clear hb hbox hg; have hcz8_0 : w7.cell? ⟨gb446, 0, none⟩ = some (.int .u64 a0_0) := (blk_cell BK446.out 0).trans rfl; have hcz8_1 : w7.cell? ⟨gb446, 1, none⟩ = some (.slice A0_1 l0_1.length c0_1) := (blk_cell BK446.out 1).trans rfl; have hcz8_2 : w7.cell? ⟨gb446, 2, none⟩ = some (.slice A0_2 l0_2.length c0_2) := (blk_cell BK446.out 2).trans rfl; have hfz8_0 := blk_frozen BK446.out 0; have hfz8_1 := blk_frozen BK446.out 1; have hfz8_2 := blk_frozen BK446.out 2) | ((with_reducible refine gate_callee (f := 64) rfl ?_); refine goesL_ (some 10) rfl rfl Try.func64 (by kernel_rfl) rfl #[.int .i64 a1, .int .i64 0, .int .i64 (wrap64 ((l0_2.length : Int) - 1))] rfl (by (try simp only [List.map_toArray, List.map_cons, List.map_nil]); first | done | rfl | (simp only [List.length_drop, List.length_take]; rfl)) ?_; (with_reducible refine (topo_within.calls a1 0 (wrap64 ((l0_2.length : Int) - 1)) true _ A3.out).mono ?_); rintro e w' ⟨rfl, ⟨nd, rfl⟩⟩; refine ⟨_, rfl, ?_⟩; have p448 : 0 ≤ (a1 : Int) := of_decide_eq_true (by first | (with_reducible assumption) | assumption); have q448 : a1 < (l0_2.length : Int) := of_decide_eq_true (by first | (with_reducible assumption) | assumption); obtain ⟨ad448, A448_0, c448_0, e448, hx448_0, hl448_0, hi448_0⟩ := at_L5 (Kd.V_reads' HO0_2.out).2.2 a1 p448 q448; cases e448; obtain ⟨ce448, hce448, hMe448, hcc448⟩ := Kd.V_get HO0_2.out [] a1 p448 (by first | exact q448 | exact of_decide_eq_true (by first | (with_reducible assumption) | assumption) | (have e_ := (Kd.V_reads' HO0_2.out).1; omega)); obtain ⟨ua448_0, uc448_0, rfl, ul448_0, ge448_0⟩ := Kd.FK_slice_open hMe448; have hv448_0 := hcc448 0 _ rfl; rw [Nat.add_zero, show ((Kd.slice 40 k40)).sz = 1 from rfl, Nat.mul_one] at hv448_0; replace hv448_0 := Option.some.inj (hv448_0.symm.trans hx448_0); injection hv448_0 with hva_ hvn_ hvc_; rw [hva_] at ge448_0; rw [hvc_] at ul448_0; have HL448_0 := Aside0.mk (show Kd.V k40 40 _ w.heap.size _ _ (rd_L5 l0_2 a1) from Kd.V_mk ul448_0 ge448_0); clear hva_ hvn_ hvc_ ge448_0 ul448_0; clear hcc448 hce448; have HR448_0 := Aside0.mk hi448_0; have HC448_0 := Aside0.mk hl448_0; clear hi448_0 hl448_0; replace p448 := eq_true p448; replace q448 := eq_true q448))
       go_ret
       exact ⟨_, by first | rfl | (simp [errW_none, errW_some] <;> rfl) | (simp [*, errW_none, errW_some] <;> rfl), by (with_reducible repeat (first | apply Kd.V_alloc | apply Kd.V_drewN | apply Kd.V_drew)); exact Kd.V_mono HL448_0.out (fun _ hk => hk.1), by repeat (first | (with_reducible first | exact HB.out | apply below_alloc | apply pw_below_drewN | apply below_drew1 | refine below_set ?_ GE446.out) | exact HB.out)⟩
     · rw [if_neg c6] at H
       exact absurd H (by simp)
   · rw [if_neg c5] at H
     exact absurd H (by simp)
 · replace c4 := Bool.eq_false_iff.mpr c4
   subst c4
   have H1 : (some ([] : List (S40))) = some r := by rw [if_neg (show ¬ (false = true) by decide)] at H; exact H
   clear H
   have H := H1
   clear H1
   obtain rfl := Option.some.inj H
   go_enter Try.func94, Try.ntmps94
   go_wp2_with (first | ((with_reducible refine gate_dst (N := 2) rfl ?_); refine box_event ?hg (N := 2) ?hd (cs := #[.int .u64 a0_0, .slice A0_1 l0_1.length c0_1, .slice A0_2 l0_2.length c0_2]) (t := 29) ?hr ?_; (case hd => rfl); (case hg => rfl); (case hr => first | (go_simp; done) | (go_simp; rfl)); intro gb446 hg w9 hbox hb; have n0_ := Aside0.mk (Kd.V_below (Kd.V_elderB (by (with_reducible repeat (first | apply Kd.V_alloc | apply Kd.V_drewN | apply Kd.V_drew)); exact HO0_2.out) gb446 (Nat.le_of_eq hg.symm)) hb); have n1_ := Aside0.mk (below_step (by repeat (first | (with_reducible first | exact HB.out | apply below_alloc | apply pw_below_drewN | apply below_drew1) | exact HB.out)) hb); have n2_ := Aside0.mk (hbox); have n3_ := Aside0.mk ((by rw [hg]; exact (below_size (by repeat (first | (with_reducible first | exact HB.out | apply below_alloc | apply pw_below_drewN | apply below_drew1) | exact HB.out))) : w.heap.size ≤ gb446)); have n4_ := Aside0.mk ((by rw [hg]; exact (below_size (by repeat (first | (with_reducible first | exact HB.out | apply below_alloc | apply pw_below_drewN | apply below_drew1) | exact HB.out))) : w.heap.size ≤ gb446)); clear HO0_2; clear HB; have HO0_2 := n0_; have HB := n1_; have BK446 := n2_; have GW446 := n3_; have GE446 := n4_; clear n0_ n1_ n2_ n3_ n4_; clear hb hbox hg; have hcz10_0 : w9.cell? ⟨gb446, 0, none⟩ = some (.int .u64 a0_0) := (blk_cell BK446.out 0).trans rfl; have hcz10_1 : w9.cell? ⟨gb446, 1, none⟩ = some (.slice A0_1 l0_1.length c0_1) := (blk_cell BK446.out 1).trans rfl; have hcz10_2 : w9.cell? ⟨gb446, 2, none⟩ = some (.slice A0_2 l0_2.length c0_2) := (blk_cell BK446.out 2).trans rfl; have hfz10_0 := blk_frozen BK446.out 0; have hfz10_1 := blk_frozen BK446.out 1; have hfz10_2 := blk_frozen BK446.out 2) | ((with_reducible refine gate_callee (f := 64) rfl ?_); refine goesL_ (some 10) rfl rfl Try.func64 (by kernel_rfl) rfl #[.int .i64 a1, .int .i64 0, .int .i64 (wrap64 ((l0_2.length : Int) - 1))] rfl (by (try simp only [List.map_toArray, List.map_cons, List.map_nil]); first | done | rfl | (simp only [List.length_drop, List.length_take]; rfl)) ?_; (with_reducible refine (topo_within.calls a1 0 (wrap64 ((l0_2.length : Int) - 1)) false _ A3.out).mono ?_); rintro e w' ⟨rfl, ⟨nd, rfl⟩⟩; refine ⟨_, rfl, ?_⟩))
   go_ret
   exact ⟨_, by first | rfl | (simp [errW_none, errW_some] <;> rfl) | (simp [*, errW_none, errW_some] <;> rfl), Kd.V_mono (Kd.R_V (base := w.heap.size) (ok := fun k_ => w.heap.size ≤ k_) (Kd.R_nil _ _ _ _ _)) (fun k_ hk => by first | exact ⟨(.inr (hk.1)), hk.2⟩ | exact (.inr (hk))), by repeat (first | (with_reducible first | exact HB.out | apply below_alloc | apply pw_below_drewN | apply below_drew1 | refine below_set ?_ GE446.out) | exact HB.out)⟩
/-! ### slices_Index_int_int: function 129 -/
def slices_Index_int_int.l0 : Nat → List Int → Int → Int → Int → Option (Int)
 | 0, _, _, _, _ => none
 | k + 1, x0, x1, x7, x8 => if x8 < x7 then (if 0 ≤ x8 then (if x8 < (x0.length : Int) then (if x1 = (rd x0 x8) then (some x8) else (slices_Index_int_int.l0 k x0 x1 x7 (wrap64 (x8 + 1)))) else (none)) else (none)) else (some (-1))
def slices_Index_int_int.f (k : Nat) (l0 : List Int) (a1 : Int) : Option (Int) := slices_Index_int_int.l0 k l0 a1 (l0.length : Int) 0
theorem slices_Index_int_int.mono_l : ∀ k, (∀ y0 y1 y2 y3, LeO (slices_Index_int_int.l0 k y0 y1 y2 y3) (slices_Index_int_int.l0 (k + 1) y0 y1 y2 y3))
 | 0 => fun _ _ _ _ r h => by simp [slices_Index_int_int.l0] at h
 | k + 1 => by
  have ih0 := slices_Index_int_int.mono_l k
  · intro y0 y1 y2 y3
    unfold slices_Index_int_int.l0
    repeat' first
    | (with_reducible exact ih0 _ _ _ _)
    | (with_reducible exact LeO.refl _)
    | (with_reducible exact LeO.none _)
    | (with_reducible refine LeO.ite ?_ ?_)
    | (with_reducible refine LeO.bind ?_ (fun _ => ?_))
    | exact ih0 _ _ _ _
    | exact LeO.none _
    | refine LeO.ite ?_ ?_
    | refine LeO.bind ?_ (fun _ => ?_)
theorem slices_Index_int_int.mono : ∀ a0 a1 k, LeO (slices_Index_int_int.f k a0 a1) (slices_Index_int_int.f (k + 1) a0 a1) := by
 intro a0 a1 k
 have ih0 := slices_Index_int_int.mono_l k
 unfold slices_Index_int_int.f
 repeat' first
  | (with_reducible exact ih0 _ _ _ _)
  | (with_reducible exact LeO.refl _)
  | (with_reducible exact LeO.none _)
  | (with_reducible refine LeO.ite ?_ ?_)
  | (with_reducible refine LeO.bind ?_ (fun _ => ?_))
  | exact ih0 _ _ _ _
  | exact LeO.none _
  | refine LeO.ite ?_ ?_
  | refine LeO.bind ?_ (fun _ => ?_)
set_option maxHeartbeats 8000000 in
set_option maxRecDepth 100000 in
theorem slices_Index_int_int.calls (k : Nat) (A0 : Option Addr) (c0 : Nat) (l0 : List Int) (a1 : Int) (r : Int) (w : World) (hr0 : Kd.C (Kd.int .i64) w A0 l0.length l0) (hc0 : l0.length ≤ c0) (h : slices_Index_int_int.f k l0 a1 = some r) :
 Calls Try.prog 129 #[.slice A0 l0.length c0, .int .i64 a1] w fun e w' => e = .returned (.int .i64 r) ∧ Drawn0 w w' := by
 have HR0 := Aside0.mk hr0
 have HC0 := Aside0.mk hc0
 clear hr0 hc0
 have H : (slices_Index_int_int.l0 k l0 a1 (l0.length : Int) 0) = some r := h
 clear h
 have H' := Aside0.mk H
 clear H
 go_enter Try.func129, Try.ntmps129
 go_wp2
 go_loopg [8] k (fun kq v8 w' => ∃ (x8_1 : Int), v8 = .int .i64 x8_1 ∧ Aside0 (slices_Index_int_int.l0 kq l0 a1 (l0.length : Int) x8_1 = some r) ∧ Aside0 (kq ≤ k) ∧ Drawn0 w w')
 case atStart => exact ⟨(0), (by first | rfl | (simp; done) | (simp [*]; done)), H', ⟨Nat.le_refl _⟩, by repeat (first | exact Drawn0.refl _ | apply Drawn0.step)⟩
 case round =>
  clear H'
  try clear c1
  try clear p2
  obtain ⟨x8_1, rfl, HA, HK1, ⟨m1, rfl⟩⟩ := hrel
  cases gk with
  | zero => exact absurd HA.out (by simp [slices_Index_int_int.l0])
  | succ k1 =>
   have H := HA.out
   clear HA
   simp only [slices_Index_int_int.l0] at H
   by_cases c3 : x8_1 < (l0.length : Int)
   · rw [if_pos c3] at H
     have c3b0 : decide (x8_1 < (l0.length : Int)) = true := decide_eq_true c3
     clear c3
     by_cases c4 : 0 ≤ x8_1
     · rw [if_pos c4] at H
       have c4b0 : decide (0 ≤ x8_1) = true := decide_eq_true c4
       clear c4
       by_cases c5 : x8_1 < (l0.length : Int)
       · rw [if_pos c5] at H
         have c5b0 : decide (x8_1 < (l0.length : Int)) = true := decide_eq_true c5
         clear c5
         by_cases c6 : a1 = (rd l0 x8_1)
         · rw [if_pos c6] at H
           have c6b0 : (a1 == (rd l0 x8_1)) = true := beq_iff_eq.mpr c6
           have c6b1 : (a1 != (rd l0 x8_1)) = false := bne_eq_false_iff_eq.mpr c6
           clear c6
           obtain rfl := Option.some.inj H
           have p449 : 0 ≤ (x8_1 : Int) := of_decide_eq_true (by first | (with_reducible assumption) | assumption)
           have q449 : x8_1 < (l0.length : Int) := of_decide_eq_true (by first | (with_reducible assumption) | assumption)
           obtain ⟨ad449, e449, hx449_0⟩ := Kd.at_int HR0.out x8_1 p449 q449
           cases e449
           replace p449 := eq_true p449
           replace q449 := eq_true q449
           go_wp2
           go_ret
           exact ⟨by first | rfl | (simp; done) | (simp [*]; done), by repeat (first | exact Drawn0.refl _ | apply Drawn0.step)⟩
         · rw [if_neg c6] at H
           have c6b0 : (a1 == (rd l0 x8_1)) = false := beq_eq_false_iff_ne.mpr c6
           have c6b1 : (a1 != (rd l0 x8_1)) = true := bne_iff_ne.mpr c6
           have H' := Aside0.mk H
           clear H
           have p449 : 0 ≤ (x8_1 : Int) := of_decide_eq_true (by first | (with_reducible assumption) | assumption)
           have q449 : x8_1 < (l0.length : Int) := of_decide_eq_true (by first | (with_reducible assumption) | assumption)
           obtain ⟨ad449, e449, hx449_0⟩ := Kd.at_int HR0.out x8_1 p449 q449
           cases e449
           replace p449 := eq_true p449
           replace q449 := eq_true q449
           go_wp2
           go_roundg k1
           case measure => have := HK1.out; omega
           case rel => exact ⟨(wrap64 (x8_1 + 1)), (by first | rfl | (simp; done) | (simp [*]; done)), H', ⟨by have := HK1.out; omega⟩, by repeat (first | exact Drawn0.refl _ | apply Drawn0.step)⟩
       · rw [if_neg c5] at H
         exact absurd H (by simp)
     · rw [if_neg c4] at H
       exact absurd H (by simp)
   · rw [if_neg c3] at H
     have c3b0 : decide (x8_1 < (l0.length : Int)) = false := decide_eq_false c3
     clear c3
     obtain rfl := Option.some.inj H
     go_wp2
     go_ret
     exact ⟨by first | rfl | (simp; done) | (simp [*]; done), by repeat (first | exact Drawn0.refl _ | apply Drawn0.step)⟩
/-! ### slices_Contains_int_int: function 75 -/
def slices_Contains_int_int.f (k : Nat) (l0 : List Int) (a1 : Int) : Option (Bool) := (slices_Index_int_int.f k l0 a1).bind fun t450 => (some (decide (t450 ≥ 0)))
theorem slices_Contains_int_int.mono : ∀ a0 a1 k, LeO (slices_Contains_int_int.f k a0 a1) (slices_Contains_int_int.f (k + 1) a0 a1) := by
 intro a0 a1 k
 unfold slices_Contains_int_int.f
 repeat' first
  | (with_reducible exact slices_Index_int_int.mono _ _ _)
  | (with_reducible exact LeO.refl _)
  | (with_reducible exact LeO.none _)
  | (with_reducible refine LeO.ite ?_ ?_)
  | (with_reducible refine LeO.bind ?_ (fun _ => ?_))
  | exact slices_Index_int_int.mono _ _ _
  | exact LeO.none _
  | refine LeO.ite ?_ ?_
  | refine LeO.bind ?_ (fun _ => ?_)
set_option maxHeartbeats 8000000 in
set_option maxRecDepth 100000 in
theorem slices_Contains_int_int.calls (k : Nat) (A0 : Option Addr) (c0 : Nat) (l0 : List Int) (a1 : Int) (r : Bool) (w : World) (hr0 : Kd.C (Kd.int .i64) w A0 l0.length l0) (hc0 : l0.length ≤ c0) (h : slices_Contains_int_int.f k l0 a1 = some r) :
 Calls Try.prog 75 #[.slice A0 l0.length c0, .int .i64 a1] w fun e w' => e = .returned (.bool r) ∧ Drawn0 w w' := by
 have HR0 := Aside0.mk hr0
 have HC0 := Aside0.mk hc0
 clear hr0 hc0
 have H : ((slices_Index_int_int.f k l0 a1).bind fun t450 => (some (decide (t450 ≥ 0)))) = some r := h
 clear h
 replace H := Option.bind_eq_some_iff.mp H
 obtain ⟨t450, A30, H⟩ := H
 replace H : (some (decide (t450 ≥ 0))) = some r := H
 have A3 := Aside0.mk A30
 clear A30
 obtain rfl := Option.some.inj H
 go_enter Try.func75, Try.ntmps75
 go_wp2_with (first | ((with_reducible refine gate_callee (f := 129) rfl ?_); refine goesL_ (some 7) rfl rfl Try.func129 (by kernel_rfl) rfl #[.slice A0 l0.length c0, .int .i64 a1] rfl (by (try simp only [List.map_toArray, List.map_cons, List.map_nil]); first | done | rfl | (simp only [List.length_drop, List.length_take]; rfl)) ?_; (with_reducible refine (slices_Index_int_int.calls k _ _ l0 a1 t450 _ ?side1 ?side2 A3.out).mono ?_); (case side1 => repeat (first | exact HR0.out | (with_reducible refine Kd.C_alloc ?_ _) | (with_reducible refine Kd.C_drewN ?_ _) | (with_reducible refine Kd.C_drew ?_))); (case side2 => exact HC0.out); rintro e w' ⟨rfl, ⟨nd, rfl⟩⟩; refine ⟨_, rfl, ?_⟩))
 go_ret
 exact ⟨by first | rfl | (simp; done) | (simp [*]; done), by repeat (first | exact Drawn0.refl _ | apply Drawn0.step)⟩
/-! ### topo_Reach: function 28 -/
mutual
def topo_Reach.l0 : Nat → Int → List Int → Int → Int → List Bool → List (List (S40)) → Option (List Int)
 | 0, _, _, _, _, _, _ => none
 | k + 1, x1, x7, x8, x452000, x452001, x452002 => if x8 < (x7.length : Int) then (if 0 ≤ x8 then ((topo_Next.f x452000 x452001 x452002 x1 (rd x7 x8)).bind fun t457 => (topo_Reach.l1 k x1 x7 x8 t457 (t457.length : Int) 0 x452000 x452001 x452002)) else (none)) else ((slices_Sort_int_int.f x7).bind fun t455 => (some t455))
def topo_Reach.l1 : Nat → Int → List Int → Int → List Int → Int → Int → Int → List Bool → List (List (S40)) → Option (List Int)
 | 0, _, _, _, _, _, _, _, _, _ => none
 | k + 1, x1, x7, x8, x27, x28, x29, x452000, x452001, x452002 => if x29 < x28 then (if 0 ≤ x29 then (if x29 < (x27.length : Int) then ((slices_Contains_int_int.f k x7 (rd x27 x29)).bind fun t461 => (if t461 = true then (topo_Reach.l1 k x1 x7 x8 x27 x28 (wrap64 (x29 + 1)) x452000 x452001 x452002) else (if x7.length < 17592186044416 then (topo_Reach.l1 k x1 (x7 ++ [rd x27 x29]) x8 x27 x28 (wrap64 (x29 + 1)) x452000 x452001 x452002) else (none)))) else (none)) else (none)) else (topo_Reach.l0 k x1 x7 (wrap64 (x8 + 1)) x452000 x452001 x452002)
end
def topo_Reach.f (k : Nat) (a0_0 : Int) (l0_1 : List Bool) (l0_2 : List (List (S40))) (a1 : Int) (a2 : Int) : Option (List Int) := (topo_Next.f a0_0 l0_1 l0_2 a1 a2).bind fun t452 => (topo_Reach.l0 k a1 t452 0 a0_0 l0_1 l0_2)
theorem topo_Reach.mono_l : ∀ k, (∀ y0 y1 y2 y3 y4 y5, LeO (topo_Reach.l0 k y0 y1 y2 y3 y4 y5) (topo_Reach.l0 (k + 1) y0 y1 y2 y3 y4 y5)) ∧ (∀ y0 y1 y2 y3 y4 y5 y6 y7 y8, LeO (topo_Reach.l1 k y0 y1 y2 y3 y4 y5 y6 y7 y8) (topo_Reach.l1 (k + 1) y0 y1 y2 y3 y4 y5 y6 y7 y8))
 | 0 => ⟨fun _ _ _ _ _ _ r h => by simp [topo_Reach.l0] at h, fun _ _ _ _ _ _ _ _ _ r h => by simp [topo_Reach.l1] at h⟩
 | k + 1 => by
  obtain ⟨ih0, ih1⟩ := topo_Reach.mono_l k
  refine ⟨?_, ?_⟩
  · intro y0 y1 y2 y3 y4 y5
    unfold topo_Reach.l0
    repeat' first
    | (with_reducible exact ih0 _ _ _ _ _ _)
    | (with_reducible exact ih1 _ _ _ _ _ _ _ _ _)
    | (with_reducible exact slices_Contains_int_int.mono _ _ _)
    | (with_reducible exact LeO.refl _)
    | (with_reducible exact LeO.none _)
    | (with_reducible refine LeO.ite ?_ ?_)
    | (with_reducible refine LeO.bind ?_ (fun _ => ?_))
    | exact ih0 _ _ _ _ _ _
    | exact ih1 _ _ _ _ _ _ _ _ _
    | exact slices_Contains_int_int.mono _ _ _
    | exact LeO.none _
    | refine LeO.ite ?_ ?_
    | refine LeO.bind ?_ (fun _ => ?_)
  · intro y0 y1 y2 y3 y4 y5 y6 y7 y8
    unfold topo_Reach.l1
    repeat' first
    | (with_reducible exact ih0 _ _ _ _ _ _)
    | (with_reducible exact ih1 _ _ _ _ _ _ _ _ _)
    | (with_reducible exact slices_Contains_int_int.mono _ _ _)
    | (with_reducible exact LeO.refl _)
    | (with_reducible exact LeO.none _)
    | (with_reducible refine LeO.ite ?_ ?_)
    | (with_reducible refine LeO.bind ?_ (fun _ => ?_))
    | exact ih0 _ _ _ _ _ _
    | exact ih1 _ _ _ _ _ _ _ _ _
    | exact slices_Contains_int_int.mono _ _ _
    | exact LeO.none _
    | refine LeO.ite ?_ ?_
    | refine LeO.bind ?_ (fun _ => ?_)
theorem topo_Reach.mono : ∀ a0 a1 a2 a3 a4 k, LeO (topo_Reach.f k a0 a1 a2 a3 a4) (topo_Reach.f (k + 1) a0 a1 a2 a3 a4) := by
 intro a0 a1 a2 a3 a4 k
 obtain ⟨ih0, ih1⟩ := topo_Reach.mono_l k
 unfold topo_Reach.f
 repeat' first
  | (with_reducible exact ih0 _ _ _ _ _ _)
  | (with_reducible exact ih1 _ _ _ _ _ _ _ _ _)
  | (with_reducible exact slices_Contains_int_int.mono _ _ _)
  | (with_reducible exact LeO.refl _)
  | (with_reducible exact LeO.none _)
  | (with_reducible refine LeO.ite ?_ ?_)
  | (with_reducible refine LeO.bind ?_ (fun _ => ?_))
  | exact ih0 _ _ _ _ _ _
  | exact ih1 _ _ _ _ _ _ _ _ _
  | exact slices_Contains_int_int.mono _ _ _
  | exact LeO.none _
  | refine LeO.ite ?_ ?_
  | refine LeO.bind ?_ (fun _ => ?_)
def topo_Reach.T5 : Bool × List (List Nat × List Nat) := (true, [([], []), ([], []), ([], []), ([], []), ([2, 3], [2, 3]), ([4], [4]), ([0, 1, 5], [0, 1, 5]), ([6], [6]), ([], [])])
def topo_Reach.B5 : List Nat := [0, 0, 0, 0, 12, 28, 63, 127, 0]
theorem topo_Reach.tab5 : rtab .any (opsOf Try.f28 5) = topo_Reach.T5 := by kernel_rfl
theorem topo_Reach.bits5 : waitsOk topo_Reach.T5.2 topo_Reach.B5 = true := by kernel_rfl
set_option maxHeartbeats 8000000 in
set_option maxRecDepth 100000 in
theorem topo_Reach.calls (k : Nat) (a0_0 : Int) (A0_1 : Option Addr) (c0_1 : Nat) (l0_1 : List Bool) (A0_2 : Option Addr) (c0_2 : Nat) (l0_2 : List (List (S40))) (a1 : Int) (a2 : Int) (r : List Int) (w : World) (hr0_1 : Kd.C Kd.bool w A0_1 l0_1.length l0_1) (hc0_1 : l0_1.length ≤ c0_1) (hr0_2 : Kd.C (Kd.slice 40 k40) w A0_2 l0_2.length l0_2) (hc0_2 : l0_2.length ≤ c0_2) (h : topo_Reach.f k a0_0 l0_1 l0_2 a1 a2 = some r) :
 Calls Try.prog 28 #[.agg #[.int .u64 a0_0, .slice A0_1 l0_1.length c0_1, .slice A0_2 l0_2.length c0_2], .int .i64 a1, .int .i64 a2] w fun e w' => ∃ v0_ : Value, e = .returned (v0_) ∧ Kd.R (Kd.int .i64) 3 w' w.heap.size (fun _ => True) v0_ r ∧ Below w.heap.size w w' := by
 have hu29 := Try.underlying29
 have HR0_1 := Aside0.mk hr0_1
 have HC0_1 := Aside0.mk hc0_1
 clear hr0_1 hc0_1
 have HR0_2 := Aside0.mk hr0_2
 have HC0_2 := Aside0.mk hc0_2
 clear hr0_2 hc0_2
 have HB := Aside0.mk (Below.refl w.heap.size w)
 have H : ((topo_Next.f a0_0 l0_1 l0_2 a1 a2).bind fun t452 => (topo_Reach.l0 k a1 t452 0 a0_0 l0_1 l0_2)) = some r := h
 clear h
 replace H := Option.bind_eq_some_iff.mp H
 obtain ⟨t452, A40, H⟩ := H
 replace H : (topo_Reach.l0 k a1 t452 0 a0_0 l0_1 l0_2) = some r := H
 have A4 := Aside0.mk A40
 clear A40
 have H' := Aside0.mk H
 clear H
 go_enter Try.func28, Try.ntmps28
 go_wp2_with (first | ((with_reducible refine gate_dst (N := 3) rfl ?_); refine box_event ?hg (N := 3) ?hd (cs := #[.int .u64 a0_0, .slice A0_1 l0_1.length c0_1, .slice A0_2 l0_2.length c0_2]) (t := 29) ?hr ?_; (case hd => rfl); (case hg => rfl); (case hr => first | (go_simp; done) | (go_simp; rfl)); intro gb451 hg w5 hbox hb; have n0_ := Aside0.mk (below_step (by repeat (first | (with_reducible first | exact HB.out | apply below_alloc | apply pw_below_drewN | apply below_drew1) | exact HB.out)) hb); have n1_ := Aside0.mk (hbox); have n2_ := Aside0.mk ((by rw [hg]; exact (below_size (by repeat (first | (with_reducible first | exact HB.out | apply below_alloc | apply pw_below_drewN | apply below_drew1) | exact HB.out))) : w.heap.size ≤ gb451)); have n3_ := Aside0.mk ((by rw [hg]; exact (below_size (by repeat (first | (with_reducible first | exact HB.out | apply below_alloc | apply pw_below_drewN | apply below_drew1) | exact HB.out))) : w.heap.size ≤ gb451)); clear HB; have HB := n0_; have BK451 := n1_; have GW451 := n2_; have GE451 := n3_; clear n0_ n1_ n2_ n3_; clear hb hbox hg; have hcz6_0 : w5.cell? ⟨gb451, 0, none⟩ = some (.int .u64 a0_0) := (blk_cell BK451.out 0).trans rfl; have hcz6_1 : w5.cell? ⟨gb451, 1, none⟩ = some (.slice A0_1 l0_1.length c0_1) := (blk_cell BK451.out 1).trans rfl; have hcz6_2 : w5.cell? ⟨gb451, 2, none⟩ = some (.slice A0_2 l0_2.length c0_2) := (blk_cell BK451.out 2).trans rfl; have hfz6_0 := blk_frozen BK451.out 0; have hfz6_1 := blk_frozen BK451.out 1; have hfz6_2 := blk_frozen BK451.out 2) | ((with_reducible refine gate_callee (f := 24) rfl ?_); refine goesL_ (some 14) rfl rfl Try.func24 (by kernel_rfl) rfl #[.agg #[.int .u64 a0_0, .slice A0_1 l0_1.length c0_1, .slice A0_2 l0_2.length c0_2], .int .i64 a1, .int .i64 a2] rfl (by (try simp only [List.map_toArray, List.map_cons, List.map_nil]); first | done | rfl | (simp only [List.length_drop, List.length_take]; rfl)) ?_; (with_reducible refine (topo_Next.calls a0_0 _ _ l0_1 _ _ l0_2 a1 a2 t452 _ ?side1 ?side2 ?side3 ?side4 A4.out).mono ?_); (case side1 => repeat (first | exact (Kd.C_below HR0_1.out HB.out) | (with_reducible refine Kd.C_alloc ?_ _) | (with_reducible refine Kd.C_drewN ?_ _) | (with_reducible refine Kd.C_drew ?_))); (case side2 => exact HC0_1.out); (case side3 => repeat (first | exact (Kd.C_below HR0_2.out HB.out) | (with_reducible refine Kd.C_alloc ?_ _) | (with_reducible refine Kd.C_drewN ?_ _) | (with_reducible refine Kd.C_drew ?_))); (case side4 => exact HC0_2.out); rintro e w7 ⟨v453, rfl, ho0, hb⟩; refine ⟨_, rfl, ?_⟩; have n0_ := Aside0.mk (Kd.R_lower ho0 (below_size (by repeat (first | (with_reducible first | exact HB.out | apply below_alloc | apply pw_below_drewN | apply below_drew1 | refine below_set ?_ GE451.out) | exact HB.out)))); have n1_ := Aside0.mk (blk_below (g := gb451) (o := .cells #[.int .u64 a0_0, .slice A0_1 l0_1.length c0_1, .slice A0_2 l0_2.length c0_2] 29 (0, 0)) (by (with_reducible repeat (first | refine blk_drewN ?_ _ | refine blk_drew ?_ | refine blk_alloc ?_ _)); exact BK451.out) hb); have n2_ := Aside0.mk (below_step (by repeat (first | (with_reducible first | exact HB.out | apply below_alloc | apply pw_below_drewN | apply below_drew1 | refine below_set ?_ GE451.out) | exact HB.out)) hb); clear BK451; clear HB; have HO454 := n0_; have BK451 := n1_; have HB := n2_; clear n0_ n1_ n2_; (try clear hb); (try clear hb2); (try clear hk); (try clear hi); (try clear ho0)))
 go_loopg [7, 8] k (fun kq v7 v8 w' => ∃ (x7_1 : List Int) (x8_1 : Int), v8 = .int .i64 x8_1 ∧ Aside0 (topo_Reach.l0 kq a1 x7_1 x8_1 a0_0 l0_1 l0_2 = some r) ∧ Aside0 (kq ≤ k) ∧ Aside0 (Kd.R (Kd.int .i64) 3 w' w.heap.size (fun _ => True) v7 x7_1) ∧ Aside0 (w'.heap[gb451]? = some (.cells #[.int .u64 a0_0, (.slice A0_1 l0_1.length c0_1), (.slice A0_2 l0_2.length c0_2)] 29 (0, 0))) ∧ Aside0 (Below w.heap.size w w'))
 case atStart => exact ⟨(t452), (0), (by first | rfl | (simp; done) | (simp [*]; done)), H', ⟨Nat.le_refl _⟩, ⟨by (with_reducible repeat (first | apply Kd.R_alloc | apply Kd.R_drewN | apply Kd.R_drew)); exact HO454.out⟩, ⟨by (with_reducible repeat (first | refine blk_drewN ?_ _ | refine blk_drew ?_ | refine blk_alloc ?_ _)); exact BK451.out⟩, ⟨by repeat (first | (with_reducible first | exact HB.out | apply below_alloc | apply pw_below_drewN | apply below_drew1 | refine below_set ?_ GE451.out) | exact HB.out)⟩⟩
 case round =>
  clear H'
  try clear c2
  try clear p2
  try clear hcz6_0
  try clear hcz6_1
  try clear hcz6_2
  try clear hfz6_0
  try clear hfz6_1
  try clear hfz6_2
  obtain ⟨x7_1, x8_1, rfl, HA, HK1, HO_7, BK451, HB⟩ := hrel
  cases gk with
  | zero => exact absurd HA.out (by simp [topo_Reach.l0])
  | succ k1 =>
   have H := HA.out
   clear HA
   simp only [topo_Reach.l0] at H
   by_cases c8 : x8_1 < (x7_1.length : Int)
   · rw [if_pos c8] at H
     have c8b0 : decide (x8_1 < (x7_1.length : Int)) = true := decide_eq_true c8
     clear c8
     by_cases c9 : 0 ≤ x8_1
     · rw [if_pos c9] at H
       have c9b0 : decide (0 ≤ x8_1) = true := decide_eq_true c9
       clear c9
       replace H := Option.bind_eq_some_iff.mp H
       obtain ⟨t457, A100, H⟩ := H
       replace H : (topo_Reach.l1 k1 a1 x7_1 x8_1 t457 (t457.length : Int) 0 a0_0 l0_1 l0_2) = some r := H
       have A10 := Aside0.mk A100
       clear A100
       have H' := Aside0.mk H
       clear H
       obtain ⟨Ao11, co11, eo11⟩ := Kd.R_slice HO_7.out
       subst eo11
       try go_wp2
       have n0_ := Aside0.mk (Kd.R_drew HO_7.out)
       have n1_ := Aside0.mk (blk_drew BK451.out)
       have n2_ := Aside0.mk (below_drew1 HB.out)
       clear HO_7
       clear BK451
       clear HB
       have HO_7 := n0_
       have BK451 := n1_
       have HB := n2_
       clear n0_ n1_ n2_
       have p456 : 0 ≤ (x8_1 : Int) := of_decide_eq_true (by first | (with_reducible assumption) | assumption)
       have q456 : x8_1 < (x7_1.length : Int) := of_decide_eq_true (by first | (with_reducible assumption) | assumption)
       obtain ⟨ad456, e456, hx456_0⟩ := Kd.at_int (Kd.R_reads' HO_7.out).2.2 x8_1 p456 q456
       cases e456
       replace p456 := eq_true p456
       replace q456 := eq_true q456
       refine start_ (n := 9) (S := fun w' => w'.cell? ⟨gb451, 0, none⟩ = some (.int .u64 a0_0) ∧ w'.cell? ⟨gb451, 1, none⟩ = some (.slice A0_1 l0_1.length c0_1) ∧ w'.cell? ⟨gb451, 2, none⟩ = some (.slice A0_2 l0_2.length c0_2) ∧ w'.cell? (ad456.add (x8_1).toNat) = some (.int .i64 (rd x7_1 x8_1))) (ds := []) #[false, false, false, false, false, false, false, false, false] (by kernel_rfl) rfl rfl ⟨(blk_cell BK451.out 0).trans rfl, (blk_cell BK451.out 1).trans rfl, (blk_cell BK451.out 2).trans rfl, hx456_0⟩ (fun hHeld => ?_); refine with_tabW topo_Reach.tab5 topo_Reach.bits5 (fun HT_ HW_ => ?_)
       generalize wr.drew = w12 at HO_7 BK451 HB hx456_0 hHeld ⊢
       refine pure_ (i := 1) (N := some 22) (v := ?_) (a' := ?_) #[false, true, false, false, false, false, false, false, false] rfl rfl (any_of HT_.out (by kernel_rfl)) (fun _ _ _ h => h) (Or.inl ⟨by rfl, ?_⟩) ?_ ?_
       rotate_left
       · intro w'
         go_simp
         with_reducible rfl
       rotate_left
       · simp only [Act.put, List.setIfInBounds_toArray, List.set_cons_zero, List.set_cons_succ, i64_w, i32_w]
         rfl
       refine pure_ (i := 2) (N := some 23) (v := ?_) (a' := ?_) #[false, true, true, false, false, false, false, false, false] rfl rfl (any_of HT_.out (by kernel_rfl)) (fun _ _ _ h => h) (Or.inl ⟨by rfl, ?_⟩) ?_ ?_
       rotate_left
       · intro w'
         go_simp
         with_reducible rfl
       rotate_left
       · simp only [Act.put, List.setIfInBounds_toArray, List.set_cons_zero, List.set_cons_succ, i64_w, i32_w]
         rfl
       refine pure_ (i := 3) (N := some 24) (v := ?_) (a' := ?_) #[false, true, true, true, false, false, false, false, false] rfl rfl (any_of HT_.out (by kernel_rfl)) (fun _ _ _ h => h) (Or.inl ⟨by rfl, ?_⟩) ?_ ?_
       rotate_left
       · intro w'
         go_simp
         with_reducible rfl
       rotate_left
       · simp only [Act.put, List.setIfInBounds_toArray, List.set_cons_zero, List.set_cons_succ, i64_w, i32_w]
         rfl
       refine pure_ (i := 4) (N := some 25) (v := ?_) (a' := ?_) #[false, true, true, true, true, false, false, false, false] rfl rfl (any_of HT_.out (by kernel_rfl)) (fun _ _ _ h => h) (Or.inl ⟨by rfl, ?_⟩) ?_ ?_
       rotate_left
       · intro w'
         go_simp
         with_reducible rfl
       rotate_left
       · simp only [Act.put, List.setIfInBounds_toArray, List.set_cons_zero, List.set_cons_succ, i64_w, i32_w]
         rfl
       refine pure_ (i := 8) (N := some 29) (v := ?_) (a' := ?_) #[false, true, true, true, true, false, false, false, true] rfl rfl (any_of HT_.out (by kernel_rfl)) (fun _ _ _ h => h) (Or.inl ⟨by rfl, ?_⟩) ?_ ?_
       rotate_left
       · intro w'
         go_simp
         with_reducible rfl
       rotate_left
       · simp only [Act.put, List.setIfInBounds_toArray, List.set_cons_zero, List.set_cons_succ, i64_w, i32_w]
         rfl
       refine take_ (i := 0) (N := some 21) (v := ?_) (a' := ?_) #[true, true, true, true, true, false, false, false, true] rfl rfl (take_ofW HT_.out HW_.out (by kernel_rfl)) (fun _ _ _ h => h) (Or.inl ⟨by rfl, ?_⟩) hHeld ?_ ?_
       rotate_left
       · rintro w' ⟨s0, s1, s2, s3⟩
         go_simp
         with_reducible rfl
       rotate_left
       · simp only [Act.put, List.setIfInBounds_toArray, List.set_cons_zero, List.set_cons_succ, i64_w, i32_w]
         rfl
       refine take_ (i := 5) (N := some 26) (v := ?_) (a' := ?_) #[true, true, true, true, true, true, false, false, true] rfl rfl (take_ofW HT_.out HW_.out (by kernel_rfl)) (fun _ _ _ h => h) (Or.inl ⟨by rfl, ?_⟩) hHeld ?_ ?_
       rotate_left
       · rintro w' ⟨s0, s1, s2, s3⟩
         go_simp
         with_reducible rfl
       rotate_left
       · simp only [Act.put, List.setIfInBounds_toArray, List.set_cons_zero, List.set_cons_succ, i64_w, i32_w]
         rfl
       refine one_ (i := 6) (N := some 27) #[true, true, true, true, true, true, true, false, true] rfl rfl (one_of HT_.out (by kernel_rfl)) (by decide) (fun K hK => ?_)
       refine goes_ Try.func24 (by kernel_rfl) rfl #[.agg #[.int .u64 a0_0, .slice A0_1 l0_1.length c0_1, .slice A0_2 l0_2.length c0_2], .int .i64 a1, .int .i64 (rd x7_1 x8_1)] (by rfl) rfl rfl (by (try simp only [List.map_toArray, List.map_cons, List.map_nil]); first | done | rfl | (simp only [List.length_drop, List.length_take]; rfl)) ?_
       with_reducible refine (topo_Next.calls a0_0 _ _ l0_1 _ _ l0_2 a1 (rd x7_1 x8_1) t457 _ ?side1 ?side2 ?side3 ?side4 A10.out).mono ?_
       (case side1 => repeat (first | exact (Kd.C_below HR0_1.out HB.out) | (with_reducible refine Kd.C_alloc ?_ _) | (with_reducible refine Kd.C_drewN ?_ _) | (with_reducible refine Kd.C_drew ?_)))
       (case side2 => exact HC0_1.out)
       (case side3 => repeat (first | exact (Kd.C_below HR0_2.out HB.out) | (with_reducible refine Kd.C_alloc ?_ _) | (with_reducible refine Kd.C_drewN ?_ _) | (with_reducible refine Kd.C_drew ?_)))
       (case side4 => exact HC0_2.out)
       rintro e w13 ⟨v458, rfl, ho0, hb⟩
       have HS3_ := (hb.cell (World.block_lt_of_cell? _ _ (hHeld.2.2.2))).trans (hHeld.2.2.2)
       refine ⟨_, rfl, ?_⟩
       have n0_ := Aside0.mk (Kd.R_elder' (by (with_reducible repeat (first | apply Kd.R_alloc | apply Kd.R_drewN | apply Kd.R_drew)); exact HO_7.out) (Kd.R_base ho0) hb)
       have n1_ := Aside0.mk (Kd.R_lower (Kd.R_new' ho0 (Kd.R_lt (by (with_reducible repeat (first | apply Kd.R_alloc | apply Kd.R_drewN | apply Kd.R_drew)); exact HO_7.out))) (below_size (by repeat (first | (with_reducible first | exact HB.out | apply below_alloc | apply pw_below_drewN | apply below_drew1 | refine below_set ?_ GE451.out) | exact HB.out))))
       have n2_ := Aside0.mk (blk_below (g := gb451) (o := .cells #[.int .u64 a0_0, .slice A0_1 l0_1.length c0_1, .slice A0_2 l0_2.length c0_2] 29 (0, 0)) (by (with_reducible repeat (first | refine blk_drewN ?_ _ | refine blk_drew ?_ | refine blk_alloc ?_ _)); exact BK451.out) hb)
       have n3_ := Aside0.mk (below_step (by repeat (first | (with_reducible first | exact HB.out | apply below_alloc | apply pw_below_drewN | apply below_drew1 | refine below_set ?_ GE451.out) | exact HB.out)) hb)
       clear HO_7
       clear BK451
       clear HB
       have HO_7 := n0_
       have HO459 := n1_
       have BK451 := n2_
       have HB := n3_
       clear n0_ n1_ n2_ n3_
       (try clear hb)
       (try clear hb2)
       (try clear hk)
       (try clear hi)
       (try clear ho0)
       obtain ⟨Ao14, co14, eo14⟩ := Kd.R_slice HO459.out
       (first | subst eo14 | (injection eo14 with f1_ f2_ f3_; have f4_ := f1_.symm; have f5_ := f3_.symm; clear f1_ f2_ f3_; subst f4_; subst f5_))
       refine hK.out _ _ ⟨(blk_cell BK451.out 0).trans rfl, (blk_cell BK451.out 1).trans rfl, (blk_cell BK451.out 2).trans rfl, HS3_⟩ (fun hHeld => ?_)
       clear hK K
       refine norm_ (a' := ?_) ?_ ?_
       rotate_left
       · show Act.put _ (some 27) _ = _
         simp only [Act.put, List.setIfInBounds_toArray, List.set_cons_zero, List.set_cons_succ, i64_w, i32_w]
         rfl
       refine pure_ (i := 7) (N := some 28) (v := ?_) (a' := ?_) #[true, true, true, true, true, true, true, true, true] rfl rfl (any_of HT_.out (by kernel_rfl)) (fun _ _ _ h => h) (Or.inl ⟨by rfl, ?_⟩) ?_ ?_
       rotate_left
       · intro w'
         go_simp
         with_reducible rfl
       rotate_left
       · simp only [Act.put, List.setIfInBounds_toArray, List.set_cons_zero, List.set_cons_succ, i64_w, i32_w]
         rfl
       refine done_ (done_of HT_.out (by kernel_rfl)) ?_
       try go_wp2
       go_loopg [7, 29] k1 (fun kq v7 v29 w' => ∃ (x7_2 : List Int) (x29_2 : Int), v29 = .int .i64 x29_2 ∧ Aside0 (topo_Reach.l1 kq a1 x7_2 x8_1 t457 (t457.length : Int) x29_2 a0_0 l0_1 l0_2 = some r) ∧ Aside0 (kq ≤ k1) ∧ Aside0 (Kd.R (Kd.int .i64) 3 w' w.heap.size (fun k_ => some k_ ≠ ((.slice Ao14 t457.length co14) : Value).ownBlock) v7 x7_2) ∧ Aside0 (Kd.R (Kd.int .i64) 3 w' w.heap.size (fun k_ => some k_ ≠ (v7 : Value).ownBlock) (.slice Ao14 t457.length co14) t457) ∧ Aside0 (w'.heap[gb451]? = some (.cells #[.int .u64 a0_0, (.slice A0_1 l0_1.length c0_1), (.slice A0_2 l0_2.length c0_2)] 29 (0, 0))) ∧ Aside0 (Below w.heap.size w w'))
       case atStart => exact ⟨(x7_1), (0), (by first | rfl | (simp; done) | (simp [*]; done)), H', ⟨Nat.le_refl _⟩, ⟨by (with_reducible repeat (first | apply Kd.R_alloc | apply Kd.R_drewN | apply Kd.R_drew)); exact Kd.R_mono HO_7.out (fun _ hk => hk.2)⟩, ⟨by (with_reducible repeat (first | apply Kd.R_alloc | apply Kd.R_drewN | apply Kd.R_drew)); exact Kd.R_mono HO459.out (fun _ hk => hk.2)⟩, ⟨by (with_reducible repeat (first | refine blk_drewN ?_ _ | refine blk_drew ?_ | refine blk_alloc ?_ _)); exact BK451.out⟩, ⟨by repeat (first | (with_reducible first | exact HB.out | apply below_alloc | apply pw_below_drewN | apply below_drew1 | refine below_set ?_ GE451.out) | exact HB.out)⟩⟩
       case round =>
        clear H'
        try clear c2
        try clear p2
        try clear p4
        try clear q4
        try clear hx4
        try clear c8
        try clear c8b0
        try clear c9
        try clear c9b0
        try clear hcz6_0
        try clear hcz6_1
        try clear hcz6_2
        try clear hfz6_0
        try clear hfz6_1
        try clear hfz6_2
        try clear hx456_0
        try clear p2
        try clear p456
        try clear q456
        obtain ⟨x7_2, x29_2, rfl, HA, HK2, HO_7, HO_27, BK451, HB⟩ := hrel
        cases gk with
        | zero => exact absurd HA.out (by simp [topo_Reach.l1])
        | succ k2 =>
         have H := HA.out
         clear HA
         simp only [topo_Reach.l1] at H
         by_cases c15 : x29_2 < (t457.length : Int)
         · rw [if_pos c15] at H
           have c15b0 : decide (x29_2 < (t457.length : Int)) = true := decide_eq_true c15
           clear c15
           by_cases c16 : 0 ≤ x29_2
           · rw [if_pos c16] at H
             have c16b0 : decide (0 ≤ x29_2) = true := decide_eq_true c16
             clear c16
             by_cases c17 : x29_2 < (t457.length : Int)
             · rw [if_pos c17] at H
               have c17b0 : decide (x29_2 < (t457.length : Int)) = true := decide_eq_true c17
               clear c17
               replace H := Option.bind_eq_some_iff.mp H
               obtain ⟨t461, A180, H⟩ := H
               replace H : (if t461 = true then (topo_Reach.l1 k2 a1 x7_2 x8_1 t457 (t457.length : Int) (wrap64 (x29_2 + 1)) a0_0 l0_1 l0_2) else (if x7_2.length < 17592186044416 then (topo_Reach.l1 k2 a1 (x7_2 ++ [rd t457 x29_2]) x8_1 t457 (t457.length : Int) (wrap64 (x29_2 + 1)) a0_0 l0_1 l0_2) else (none))) = some r := H
               have A18 := Aside0.mk A180
               clear A180
               by_cases c19 : t461 = true
               · subst c19
                 have H1 : (topo_Reach.l1 k2 a1 x7_2 x8_1 t457 (t457.length : Int) (wrap64 (x29_2 + 1)) a0_0 l0_1 l0_2) = some r := by rw [if_pos rfl] at H; exact H
                 clear H
                 have H := H1
                 clear H1
                 have H' := Aside0.mk H
                 clear H
                 have p460 : 0 ≤ (x29_2 : Int) := of_decide_eq_true (by first | (with_reducible assumption) | assumption)
                 have q460 : x29_2 < (t457.length : Int) := of_decide_eq_true (by first | (with_reducible assumption) | assumption)
                 obtain ⟨ad460, e460, hx460_0⟩ := Kd.at_int (Kd.R_reads' HO_27.out).2.2 x29_2 p460 q460
                 cases e460
                 replace p460 := eq_true p460
                 replace q460 := eq_true q460
                 obtain ⟨Ao20, co20, eo20⟩ := Kd.R_slice HO_7.out
                 subst eo20
                 go_wp2_with (first | ((with_reducible refine gate_callee (f := 75) rfl ?_); refine goesL_ (some 35) rfl rfl Try.func75 (by kernel_rfl) rfl #[.slice Ao20 x7_2.length co20, .int .i64 (rd t457 x29_2)] rfl (by (try simp only [List.map_toArray, List.map_cons, List.map_nil]); first | done | rfl | (simp only [List.length_drop, List.length_take]; rfl)) ?_; (with_reducible refine (slices_Contains_int_int.calls k2 _ _ x7_2 (rd t457 x29_2) true _ ?side1 ?side2 A18.out).mono ?_); (case side1 => repeat (first | exact (Kd.R_reads' HO_7.out).2.2 | (with_reducible refine Kd.C_alloc ?_ _) | (with_reducible refine Kd.C_drewN ?_ _) | (with_reducible refine Kd.C_drew ?_))); (case side2 => exact (Kd.R_reads' HO_7.out).2.1); rintro e w' ⟨rfl, ⟨nd, rfl⟩⟩; refine ⟨_, rfl, ?_⟩))
                 go_roundg k2
                 case measure => have := HK1.out; have := HK2.out; omega
                 case rel => exact ⟨(x7_2), (wrap64 (x29_2 + 1)), (by first | rfl | (simp; done) | (simp [*]; done)), H', ⟨by have := HK1.out; have := HK2.out; omega⟩, ⟨by (with_reducible repeat (first | apply Kd.R_alloc | apply Kd.R_drewN | apply Kd.R_drew)); exact HO_7.out⟩, ⟨by (with_reducible repeat (first | apply Kd.R_alloc | apply Kd.R_drewN | apply Kd.R_drew)); exact HO_27.out⟩, ⟨by (with_reducible repeat (first | refine blk_drewN ?_ _ | refine blk_drew ?_ | refine blk_alloc ?_ _)); exact BK451.out⟩, ⟨by repeat (first | (with_reducible first | exact HB.out | apply below_alloc | apply pw_below_drewN | apply below_drew1 | refine below_set ?_ GE451.out) | exact HB.out)⟩⟩
               · replace c19 := Bool.eq_false_iff.mpr c19
                 subst c19
                 have H1 : (if x7_2.length < 17592186044416 then (topo_Reach.l1 k2 a1 (x7_2 ++ [rd t457 x29_2]) x8_1 t457 (t457.length : Int) (wrap64 (x29_2 + 1)) a0_0 l0_1 l0_2) else (none)) = some r := by rw [if_neg (show ¬ (false = true) by decide)] at H; exact H
                 clear H
                 have H := H1
                 clear H1
                 by_cases c21 : x7_2.length < 17592186044416
                 · rw [if_pos c21] at H
                   have LMc21 := Aside0.mk c21
                   clear c21
                   obtain ⟨y462, hy462⟩ : ∃ y_ : List Int, y_ = (x7_2 ++ [rd t457 x29_2]) := ⟨_, rfl⟩
                   replace H : (topo_Reach.l1 k2 a1 y462 x8_1 t457 (t457.length : Int) (wrap64 (x29_2 + 1)) a0_0 l0_1 l0_2) = some r := by first | (rw [hy462]; with_reducible exact H) | (have H2_ := (Option.bind_some _ _).symm.trans H; rw [hy462]; with_reducible exact H2_) | (have H2_ := (Option.bind_some _ _).symm.trans H; with_reducible exact H2_) | with_reducible exact H | (rw [hy462]; exact H) | exact H
                   have Ny462 := Aside0.mk hy462
                   clear hy462
                   have H' := Aside0.mk H
                   clear H
                   have p460 : 0 ≤ (x29_2 : Int) := of_decide_eq_true (by first | (with_reducible assumption) | assumption)
                   have q460 : x29_2 < (t457.length : Int) := of_decide_eq_true (by first | (with_reducible assumption) | assumption)
                   obtain ⟨ad460, e460, hx460_0⟩ := Kd.at_int (Kd.R_reads' HO_27.out).2.2 x29_2 p460 q460
                   cases e460
                   replace p460 := eq_true p460
                   replace q460 := eq_true q460
                   obtain ⟨Ao22, co22, eo22⟩ := Kd.R_slice HO_7.out
                   subst eo22
                   go_wp2_with (first | ((with_reducible refine gate_callee (f := 75) rfl ?_); refine goesL_ (some 35) rfl rfl Try.func75 (by kernel_rfl) rfl #[.slice Ao22 x7_2.length co22, .int .i64 (rd t457 x29_2)] rfl (by (try simp only [List.map_toArray, List.map_cons, List.map_nil]); first | done | rfl | (simp only [List.length_drop, List.length_take]; rfl)) ?_; (with_reducible refine (slices_Contains_int_int.calls k2 _ _ x7_2 (rd t457 x29_2) false _ ?side1 ?side2 A18.out).mono ?_); (case side1 => repeat (first | exact (Kd.R_reads' HO_7.out).2.2 | (with_reducible refine Kd.C_alloc ?_ _) | (with_reducible refine Kd.C_drewN ?_ _) | (with_reducible refine Kd.C_drew ?_))); (case side2 => exact (Kd.R_reads' HO_7.out).2.1); rintro e w' ⟨rfl, ⟨nd, rfl⟩⟩; refine ⟨_, rfl, ?_⟩) | ((with_reducible refine gate_builtin (b := .append) (xs := #[.tmp 37, .tmp 39]) rfl ?_); at_builtin; refine Kd.R_append (Kd.int .i64) (w0 := w) w.heap.size rfl (.tmp 37) (.tmp 39) 31 3 (.int .i64 0) 8 rfl Try.underlying31 info3 rfl (by decide) (by omega) (.slice Ao22 x7_2.length co22) x7_2 (rd t457 x29_2) [.int .i64 (rd t457 x29_2)] (fun k_ => some k_ ≠ (.slice (some ad460) t457.length co14 : Value).ownBlock) (fun _ => False) rfl rfl ?aP (fun _ hk => hk.elim) ?aF ?aO ?aB ?aS ?aL ?_; (case aP => exact rfl); (case aB => exact (by repeat (first | (with_reducible first | exact HB.out | apply below_alloc | apply pw_below_drewN | apply below_drew1 | refine below_set ?_ GE451.out) | exact HB.out))); (case aF => exact (fun k_ hk => Kd.fresh' (Kd.R_lt (by (with_reducible repeat (first | apply Kd.R_alloc | apply Kd.R_drewN | apply Kd.R_drew)); exact HO_27.out)) k_ hk)); (case aO => exact (by (with_reducible repeat (first | apply Kd.R_alloc | apply Kd.R_drewN | apply Kd.R_drew)); exact HO_7.out)); (case aS => exact (below_size (by repeat (first | (with_reducible first | exact HB.out | apply below_alloc | apply pw_below_drewN | apply below_drew1 | refine below_set ?_ GE451.out) | exact HB.out)))); (case aL => have := LMc21.out; omega); intro v463 w23 ho hb hg hat; rw [← Ny462.out] at ho; have n0_ := Aside0.mk (Kd.R_after (ok := (fun _ => True)) (by (with_reducible repeat (first | apply Kd.R_alloc | apply Kd.R_drewN | apply Kd.R_drew)); exact Kd.R_mono HO_27.out (fun _ hk => ⟨trivial, hk⟩)) hg hat); have n1_ := Aside0.mk (blk_grown (g := gb451) (o := .cells #[.int .u64 a0_0, .slice A0_1 l0_1.length c0_1, .slice A0_2 l0_2.length c0_2] 29 (0, 0)) (by (with_reducible repeat (first | refine blk_drewN ?_ _ | refine blk_drew ?_ | refine blk_alloc ?_ _)); exact BK451.out) hg (Kd.R_ne HO_7.out BK451.out (by decide))); have n2_ := Aside0.mk (hb); have n3_ := Aside0.mk (ho); clear HO_27; clear BK451; clear HB; clear HO_7; have HO_27 := n0_; have BK451 := n1_; have HB := n2_; have HO464 := n3_; clear n0_ n1_ n2_ n3_; clear ho hb hg hat))
                   go_roundg k2
                   case measure => have := HK1.out; have := HK2.out; omega
                   case rel => exact ⟨(y462), (wrap64 (x29_2 + 1)), (by first | rfl | (simp; done) | (simp [*]; done)), H', ⟨by have := HK1.out; have := HK2.out; omega⟩, ⟨by (with_reducible repeat (first | apply Kd.R_alloc | apply Kd.R_drewN | apply Kd.R_drew)); exact HO464.out⟩, ⟨by (with_reducible repeat (first | apply Kd.R_alloc | apply Kd.R_drewN | apply Kd.R_drew)); exact Kd.R_mono HO_27.out (fun _ hk => hk.2)⟩, ⟨by (with_reducible repeat (first | refine blk_drewN ?_ _ | refine blk_drew ?_ | refine blk_alloc ?_ _)); exact BK451.out⟩, ⟨by repeat (first | (with_reducible first | exact HB.out | apply below_alloc | apply pw_below_drewN | apply below_drew1 | refine below_set ?_ GE451.out) | exact HB.out)⟩⟩
                 · rw [if_neg c21] at H
                   exact absurd H (by simp)
             · rw [if_neg c17] at H
               exact absurd H (by simp)
           · rw [if_neg c16] at H
             exact absurd H (by simp)
         · rw [if_neg c15] at H
           have c15b0 : decide (x29_2 < (t457.length : Int)) = false := decide_eq_false c15
           clear c15
           have H' := Aside0.mk H
           clear H
           go_wp2
           go_roundg k2
           case measure => have := HK1.out; have := HK2.out; omega
           case rel => exact ⟨(x7_2), (wrap64 (x8_1 + 1)), (by first | rfl | (simp; done) | (simp [*]; done)), H', ⟨by have := HK1.out; have := HK2.out; omega⟩, ⟨by (with_reducible repeat (first | apply Kd.R_alloc | apply Kd.R_drewN | apply Kd.R_drew)); exact Kd.R_mono HO_7.out (fun _ hk => trivial)⟩, ⟨by (with_reducible repeat (first | refine blk_drewN ?_ _ | refine blk_drew ?_ | refine blk_alloc ?_ _)); exact BK451.out⟩, ⟨by repeat (first | (with_reducible first | exact HB.out | apply below_alloc | apply pw_below_drewN | apply below_drew1 | refine below_set ?_ GE451.out) | exact HB.out)⟩⟩
     · rw [if_neg c9] at H
       exact absurd H (by simp)
   · rw [if_neg c8] at H
     have c8b0 : decide (x8_1 < (x7_1.length : Int)) = false := decide_eq_false c8
     clear c8
     replace H := Option.bind_eq_some_iff.mp H
     obtain ⟨t455, A240, H⟩ := H
     replace H : (some t455) = some r := H
     have A24 := Aside0.mk A240
     clear A240
     obtain rfl := Option.some.inj H
     obtain ⟨Ao25, co25, eo25⟩ := Kd.R_slice HO_7.out
     subst eo25
     go_wp2_with (first | ((with_reducible refine gate_callee (f := 71) rfl ?_); refine goesL_ (some 43) rfl rfl Try.func71 (by kernel_rfl) rfl #[.slice Ao25 x7_1.length co25] rfl (by (try simp only [List.map_toArray, List.map_cons, List.map_nil]); first | done | rfl | (simp only [List.length_drop, List.length_take]; rfl)) ?_; (with_reducible refine (slices_Sort_int_int.calls (fun k_ => some k_ = (.slice Ao25 x7_1.length co25 : Value).ownBlock) (.slice Ao25 x7_1.length co25) x7_1 t455 w _ ?side1 ?side2 A24.out).mono ?_); (case side1 => repeat (first | (with_reducible first | exact HB.out | apply below_alloc | apply pw_below_drewN | apply below_drew1 | refine below_set ?_ GE451.out) | exact HB.out)); (case side2 => exact Kd.R_tight rfl HO_7.out); rintro e w26 ⟨rfl, hy0, hb, hkp⟩; refine ⟨_, rfl, ?_⟩; have n0_ := Aside0.mk (Kd.R_reok rfl hy0 (fun k_ e_ => HO_7.out.1 k_ e_)); have n1_ := Aside0.mk (blk_kept (by (with_reducible repeat (first | refine blk_drewN ?_ _ | refine blk_drew ?_ | refine blk_alloc ?_ _)); exact BK451.out) hkp (fun hs_ => (fun e_ => (Kd.R_ne HO_7.out BK451.out (by decide)) e_) hs_)); have n2_ := Aside0.mk (hb); clear HO_7; clear BK451; clear HB; have HO_7 := n0_; have BK451 := n1_; have HB := n2_; clear n0_ n1_ n2_; (try clear hb); (try clear hkp); (try clear hy0)))
     go_ret
     exact ⟨_, by first | rfl | (simp [errW_none, errW_some] <;> rfl) | (simp [*, errW_none, errW_some] <;> rfl), by (with_reducible repeat (first | apply Kd.R_alloc | apply Kd.R_drewN | apply Kd.R_drew)); exact HO_7.out, by repeat (first | (with_reducible first | exact HB.out | apply below_alloc | apply pw_below_drewN | apply below_drew1 | refine below_set ?_ GE451.out) | exact HB.out)⟩
/-! ### api_Edge_133: function 133 -/
def api_Edge_133.l0 : Nat → List (S40) → Int → Int → Int → Int → Option (Int)
 | 0, _, _, _, _, _ => none
 | k + 1, x0, x7, x8, x466000, x466001 => if x8 < x7 then (if 0 ≤ x8 then (if x8 < (x0.length : Int) then (if (x466000 == ((rd_T40 x0 x8).f0) && (x466001 == ((rd_T40 x0 x8).f1))) = true then (some x8) else (api_Edge_133.l0 k x0 x7 (wrap64 (x8 + 1)) x466000 x466001)) else (none)) else (none)) else (some (-1))
def api_Edge_133.f (k : Nat) (l0 : List (S40)) (a1_0 : Int) (a1_1 : Int) : Option (Int) := api_Edge_133.l0 k l0 (l0.length : Int) 0 a1_0 a1_1
theorem api_Edge_133.mono_l : ∀ k, (∀ y0 y1 y2 y3 y4, LeO (api_Edge_133.l0 k y0 y1 y2 y3 y4) (api_Edge_133.l0 (k + 1) y0 y1 y2 y3 y4))
 | 0 => fun _ _ _ _ _ r h => by simp [api_Edge_133.l0] at h
 | k + 1 => by
  have ih0 := api_Edge_133.mono_l k
  · intro y0 y1 y2 y3 y4
    unfold api_Edge_133.l0
    repeat' first
    | (with_reducible exact ih0 _ _ _ _ _)
    | (with_reducible exact LeO.refl _)
    | (with_reducible exact LeO.none _)
    | (with_reducible refine LeO.ite ?_ ?_)
    | (with_reducible refine LeO.bind ?_ (fun _ => ?_))
    | exact ih0 _ _ _ _ _
    | exact LeO.none _
    | refine LeO.ite ?_ ?_
    | refine LeO.bind ?_ (fun _ => ?_)
theorem api_Edge_133.mono : ∀ a0 a1 a2 k, LeO (api_Edge_133.f k a0 a1 a2) (api_Edge_133.f (k + 1) a0 a1 a2) := by
 intro a0 a1 a2 k
 have ih0 := api_Edge_133.mono_l k
 unfold api_Edge_133.f
 repeat' first
  | (with_reducible exact ih0 _ _ _ _ _)
  | (with_reducible exact LeO.refl _)
  | (with_reducible exact LeO.none _)
  | (with_reducible refine LeO.ite ?_ ?_)
  | (with_reducible refine LeO.bind ?_ (fun _ => ?_))
  | exact ih0 _ _ _ _ _
  | exact LeO.none _
  | refine LeO.ite ?_ ?_
  | refine LeO.bind ?_ (fun _ => ?_)
set_option maxHeartbeats 8000000 in
set_option maxRecDepth 100000 in
theorem api_Edge_133.calls (k : Nat) (A0 : Option Addr) (c0 : Nat) (l0 : List (S40)) (a1_0 : Int) (a1_1 : Int) (r : Int) (w : World) (hr0 : Kd.C k40 w A0 l0.length l0) (hc0 : l0.length ≤ c0) (h : api_Edge_133.f k l0 a1_0 a1_1 = some r) :
 Calls Try.prog 133 #[.slice A0 l0.length c0, .agg #[.int .i64 a1_0, .int .i64 a1_1]] w fun e w' => e = .returned (.int .i64 r) ∧ Below w.heap.size w w' := by
 have hu40 := Try.underlying40
 have HR0 := Aside0.mk hr0
 have HC0 := Aside0.mk hc0
 clear hr0 hc0
 have HB := Aside0.mk (Below.refl w.heap.size w)
 have H : (api_Edge_133.l0 k l0 (l0.length : Int) 0 a1_0 a1_1) = some r := h
 clear h
 have H' := Aside0.mk H
 clear H
 go_enter Try.func133, Try.ntmps133
 go_wp2_with (first | ((with_reducible refine gate_dst (N := 3) rfl ?_); refine box_event ?hg (N := 3) ?hd (cs := #[.int .i64 a1_0, .int .i64 a1_1]) (t := 40) ?hr ?_; (case hd => rfl); (case hg => rfl); (case hr => first | (go_simp; done) | (go_simp; rfl)); intro gb465 hg w3 hbox hb; have n0_ := Aside0.mk (below_step (by repeat (first | (with_reducible first | exact HB.out | apply below_alloc | apply pw_below_drewN | apply below_drew1) | exact HB.out)) hb); have n1_ := Aside0.mk (hbox); have n2_ := Aside0.mk ((by rw [hg]; exact (below_size (by repeat (first | (with_reducible first | exact HB.out | apply below_alloc | apply pw_below_drewN | apply below_drew1) | exact HB.out))) : w.heap.size ≤ gb465)); have n3_ := Aside0.mk ((by rw [hg]; exact (below_size (by repeat (first | (with_reducible first | exact HB.out | apply below_alloc | apply pw_below_drewN | apply below_drew1) | exact HB.out))) : w.heap.size ≤ gb465)); clear HB; have HB := n0_; have BK465 := n1_; have GW465 := n2_; have GE465 := n3_; clear n0_ n1_ n2_ n3_; clear hb hbox hg))
 repeat (go_quiet (first | ((with_reducible refine gate_dst (N := 3) rfl ?_); refine box_event ?hg (N := 3) ?hd (cs := #[.int .i64 a1_0, .int .i64 a1_1]) (t := 40) ?hr ?_; (case hd => rfl); (case hg => rfl); (case hr => first | (go_simp; done) | (go_simp; rfl)); intro gb465 hg w3 hbox hb; have n0_ := Aside0.mk (below_step (by repeat (first | (with_reducible first | exact HB.out | apply below_alloc | apply pw_below_drewN | apply below_drew1) | exact HB.out)) hb); have n1_ := Aside0.mk (hbox); have n2_ := Aside0.mk ((by rw [hg]; exact (below_size (by repeat (first | (with_reducible first | exact HB.out | apply below_alloc | apply pw_below_drewN | apply below_drew1) | exact HB.out))) : w.heap.size ≤ gb465)); have n3_ := Aside0.mk ((by rw [hg]; exact (below_size (by repeat (first | (with_reducible first | exact HB.out | apply below_alloc | apply pw_below_drewN | apply below_drew1) | exact HB.out))) : w.heap.size ≤ gb465)); clear HB; have HB := n0_; have BK465 := n1_; have GW465 := n2_; have GE465 := n3_; clear n0_ n1_ n2_ n3_; clear hb hbox hg)); try go_wp2_with (first | ((with_reducible refine gate_dst (N := 3) rfl ?_); refine box_event ?hg (N := 3) ?hd (cs := #[.int .i64 a1_0, .int .i64 a1_1]) (t := 40) ?hr ?_; (case hd => rfl); (case hg => rfl); (case hr => first | (go_simp; done) | (go_simp; rfl)); intro gb465 hg w3 hbox hb; have n0_ := Aside0.mk (below_step (by repeat (first | (with_reducible first | exact HB.out | apply below_alloc | apply pw_below_drewN | apply below_drew1) | exact HB.out)) hb); have n1_ := Aside0.mk (hbox); have n2_ := Aside0.mk ((by rw [hg]; exact (below_size (by repeat (first | (with_reducible first | exact HB.out | apply below_alloc | apply pw_below_drewN | apply below_drew1) | exact HB.out))) : w.heap.size ≤ gb465)); have n3_ := Aside0.mk ((by rw [hg]; exact (below_size (by repeat (first | (with_reducible first | exact HB.out | apply below_alloc | apply pw_below_drewN | apply below_drew1) | exact HB.out))) : w.heap.size ≤ gb465)); clear HB; have HB := n0_; have BK465 := n1_; have GW465 := n2_; have GE465 := n3_; clear n0_ n1_ n2_ n3_; clear hb hbox hg)))
 go_loopg [8] k (fun kq v8 w' => ∃ (x8_1 : Int), v8 = .int .i64 x8_1 ∧ Aside0 (api_Edge_133.l0 kq l0 (l0.length : Int) x8_1 a1_0 a1_1 = some r) ∧ Aside0 (kq ≤ k) ∧ Aside0 (w'.heap[gb465]? = some (.cells #[.int .i64 a1_0, .int .i64 a1_1] 40 (0, 0))) ∧ Aside0 (Below w.heap.size w w'))
 case atStart => exact ⟨(0), (by first | rfl | (simp; done) | (simp [*]; done)), H', ⟨Nat.le_refl _⟩, ⟨by (with_reducible repeat (first | refine blk_drewN ?_ _ | refine blk_drew ?_ | refine blk_alloc ?_ _)); exact BK465.out⟩, ⟨by repeat (first | (with_reducible first | exact HB.out | apply below_alloc | apply pw_below_drewN | apply below_drew1 | refine below_set ?_ GE465.out) | exact HB.out)⟩⟩
 case round =>
  clear H'
  try clear c1
  try clear p2
  obtain ⟨x8_1, rfl, HA, HK1, BK465, HB⟩ := hrel
  cases gk with
  | zero => exact absurd HA.out (by simp [api_Edge_133.l0])
  | succ k1 =>
   have H := HA.out
   clear HA
   simp only [api_Edge_133.l0] at H
   by_cases c4 : x8_1 < (l0.length : Int)
   · rw [if_pos c4] at H
     have c4b0 : decide (x8_1 < (l0.length : Int)) = true := decide_eq_true c4
     clear c4
     by_cases c5 : 0 ≤ x8_1
     · rw [if_pos c5] at H
       have c5b0 : decide (0 ≤ x8_1) = true := decide_eq_true c5
       clear c5
       by_cases c6 : x8_1 < (l0.length : Int)
       · rw [if_pos c6] at H
         have c6b0 : decide (x8_1 < (l0.length : Int)) = true := decide_eq_true c6
         clear c6
         by_cases c7 : (a1_0 == ((rd_T40 l0 x8_1).f0) && (a1_1 == ((rd_T40 l0 x8_1).f1))) = true
         · rw [if_pos c7] at H
           have c7b0 : (a1_0 == ((rd_T40 l0 x8_1).f0) && (a1_1 == ((rd_T40 l0 x8_1).f1))) = true := c7
           (try (have c7b1 : decide (a1_0 = ((rd_T40 l0 x8_1).f0) && (a1_1 == ((rd_T40 l0 x8_1).f1))) = true := by simpa using c7))
           (try (have c7b2 : (a1_0 == ((rd_T40 l0 x8_1).f0) && (a1_1 == ((rd_T40 l0 x8_1).f1))) = true := by simpa using c7))
           clear c7
           obtain rfl := Option.some.inj H
           have hcz8_0 : wr.cell? ⟨gb465, 0, none⟩ = some (.int .i64 a1_0) := (blk_cell BK465.out 0).trans rfl
           have hcz8_1 : wr.cell? ⟨gb465, 1, none⟩ = some (.int .i64 a1_1) := (blk_cell BK465.out 1).trans rfl
           have hfz8_0 := blk_frozen BK465.out 0
           have hfz8_1 := blk_frozen BK465.out 1
           have p466 : 0 ≤ (x8_1 : Int) := of_decide_eq_true (by first | (with_reducible assumption) | assumption)
           have q466 : x8_1 < (l0.length : Int) := of_decide_eq_true (by first | (with_reducible assumption) | assumption)
           obtain ⟨ad466, e466, hx466_0, hx466_1⟩ := at_T40 HR0.out x8_1 p466 q466
           cases e466
           replace hx466_0 := (HB.out.cell (World.block_lt_of_cell? w _ hx466_0)).trans hx466_0
           replace hx466_1 := (HB.out.cell (World.block_lt_of_cell? w _ hx466_1)).trans hx466_1
           replace p466 := eq_true p466
           replace q466 := eq_true q466
           go_wp2
           repeat (go_quiet (fail); try go_wp2)
           go_ret
           exact ⟨by first | rfl | (simp [errW_none, errW_some] <;> rfl) | (simp [*, errW_none, errW_some] <;> rfl), by repeat (first | (with_reducible first | exact HB.out | apply below_alloc | apply pw_below_drewN | apply below_drew1 | refine below_set ?_ GE465.out) | exact HB.out)⟩
         · rw [if_neg c7] at H
           have c7b0 : (a1_0 == ((rd_T40 l0 x8_1).f0) && (a1_1 == ((rd_T40 l0 x8_1).f1))) = false := by simpa using c7
           (try (have c7b1 : decide (a1_0 = ((rd_T40 l0 x8_1).f0) && (a1_1 == ((rd_T40 l0 x8_1).f1))) = false := by simpa using c7))
           (try (have c7b2 : (a1_0 == ((rd_T40 l0 x8_1).f0) && (a1_1 == ((rd_T40 l0 x8_1).f1))) = false := by simpa using c7))
           (try (have c7b3 : ¬ (a1_0 = ((rd_T40 l0 x8_1).f0) && (a1_1 == ((rd_T40 l0 x8_1).f1))) := by simpa using c7))
           clear c7
           have H' := Aside0.mk H
           clear H
           have hcz9_0 : wr.cell? ⟨gb465, 0, none⟩ = some (.int .i64 a1_0) := (blk_cell BK465.out 0).trans rfl
           have hcz9_1 : wr.cell? ⟨gb465, 1, none⟩ = some (.int .i64 a1_1) := (blk_cell BK465.out 1).trans rfl
           have hfz9_0 := blk_frozen BK465.out 0
           have hfz9_1 := blk_frozen BK465.out 1
           have p466 : 0 ≤ (x8_1 : Int) := of_decide_eq_true (by first | (with_reducible assumption) | assumption)
           have q466 : x8_1 < (l0.length : Int) := of_decide_eq_true (by first | (with_reducible assumption) | assumption)
           obtain ⟨ad466, e466, hx466_0, hx466_1⟩ := at_T40 HR0.out x8_1 p466 q466
           cases e466
           replace hx466_0 := (HB.out.cell (World.block_lt_of_cell? w _ hx466_0)).trans hx466_0
           replace hx466_1 := (HB.out.cell (World.block_lt_of_cell? w _ hx466_1)).trans hx466_1
           replace p466 := eq_true p466
           replace q466 := eq_true q466
           go_wp2
           repeat (go_quiet (fail); try go_wp2)
           go_roundg k1
           case measure => have := HK1.out; omega
           case rel => exact ⟨(wrap64 (x8_1 + 1)), (by first | rfl | (simp; done) | (simp [*]; done)), H', ⟨by have := HK1.out; omega⟩, ⟨by (with_reducible repeat (first | refine blk_drewN ?_ _ | refine blk_drew ?_ | refine blk_alloc ?_ _)); exact BK465.out⟩, ⟨by repeat (first | (with_reducible first | exact HB.out | apply below_alloc | apply pw_below_drewN | apply below_drew1 | refine below_set ?_ GE465.out) | exact HB.out)⟩⟩
       · rw [if_neg c6] at H
         exact absurd H (by simp)
     · rw [if_neg c5] at H
       exact absurd H (by simp)
   · rw [if_neg c4] at H
     have c4b0 : decide (x8_1 < (l0.length : Int)) = false := decide_eq_false c4
     clear c4
     obtain rfl := Option.some.inj H
     go_wp2
     repeat (go_quiet (fail); try go_wp2)
     go_ret
     exact ⟨by first | rfl | (simp [errW_none, errW_some] <;> rfl) | (simp [*, errW_none, errW_some] <;> rfl), by repeat (first | (with_reducible first | exact HB.out | apply below_alloc | apply pw_below_drewN | apply below_drew1 | refine below_set ?_ GE465.out) | exact HB.out)⟩
/-! ### api_Edge_97: function 97 -/
def api_Edge_97.f (k : Nat) (l0 : List (S40)) (a1_0 : Int) (a1_1 : Int) : Option (Bool) := (api_Edge_133.f k l0 a1_0 a1_1).bind fun t468 => (some (decide (t468 ≥ 0)))
theorem api_Edge_97.mono : ∀ a0 a1 a2 k, LeO (api_Edge_97.f k a0 a1 a2) (api_Edge_97.f (k + 1) a0 a1 a2) := by
 intro a0 a1 a2 k
 unfold api_Edge_97.f
 repeat' first
  | (with_reducible exact api_Edge_133.mono _ _ _ _)
  | (with_reducible exact LeO.refl _)
  | (with_reducible exact LeO.none _)
  | (with_reducible refine LeO.ite ?_ ?_)
  | (with_reducible refine LeO.bind ?_ (fun _ => ?_))
  | exact api_Edge_133.mono _ _ _ _
  | exact LeO.none _
  | refine LeO.ite ?_ ?_
  | refine LeO.bind ?_ (fun _ => ?_)
set_option maxHeartbeats 8000000 in
set_option maxRecDepth 100000 in
theorem api_Edge_97.calls (k : Nat) (A0 : Option Addr) (c0 : Nat) (l0 : List (S40)) (a1_0 : Int) (a1_1 : Int) (r : Bool) (w : World) (hr0 : Kd.C k40 w A0 l0.length l0) (hc0 : l0.length ≤ c0) (h : api_Edge_97.f k l0 a1_0 a1_1 = some r) :
 Calls Try.prog 97 #[.slice A0 l0.length c0, .agg #[.int .i64 a1_0, .int .i64 a1_1]] w fun e w' => e = .returned (.bool r) ∧ Below w.heap.size w w' := by
 have hu40 := Try.underlying40
 have HR0 := Aside0.mk hr0
 have HC0 := Aside0.mk hc0
 clear hr0 hc0
 have HB := Aside0.mk (Below.refl w.heap.size w)
 have H : ((api_Edge_133.f k l0 a1_0 a1_1).bind fun t468 => (some (decide (t468 ≥ 0)))) = some r := h
 clear h
 replace H := Option.bind_eq_some_iff.mp H
 obtain ⟨t468, A30, H⟩ := H
 replace H : (some (decide (t468 ≥ 0))) = some r := H
 have A3 := Aside0.mk A30
 clear A30
 obtain rfl := Option.some.inj H
 go_enter Try.func97, Try.ntmps97
 go_wp2_with (first | ((with_reducible refine gate_dst (N := 3) rfl ?_); refine box_event ?hg (N := 3) ?hd (cs := #[.int .i64 a1_0, .int .i64 a1_1]) (t := 40) ?hr ?_; (case hd => rfl); (case hg => rfl); (case hr => first | (go_simp; done) | (go_simp; rfl)); intro gb467 hg w4 hbox hb; have n0_ := Aside0.mk (below_step (by repeat (first | (with_reducible first | exact HB.out | apply below_alloc | apply pw_below_drewN | apply below_drew1) | exact HB.out)) hb); have n1_ := Aside0.mk (hbox); have n2_ := Aside0.mk ((by rw [hg]; exact (below_size (by repeat (first | (with_reducible first | exact HB.out | apply below_alloc | apply pw_below_drewN | apply below_drew1) | exact HB.out))) : w.heap.size ≤ gb467)); have n3_ := Aside0.mk ((by rw [hg]; exact (below_size (by repeat (first | (with_reducible first | exact HB.out | apply below_alloc | apply pw_below_drewN | apply below_drew1) | exact HB.out))) : w.heap.size ≤ gb467)); clear HB; have HB := n0_; have BK467 := n1_; have GW467 := n2_; have GE467 := n3_; clear n0_ n1_ n2_ n3_; clear hb hbox hg; have hcz5_0 : w4.cell? ⟨gb467, 0, none⟩ = some (.int .i64 a1_0) := (blk_cell BK467.out 0).trans rfl; have hcz5_1 : w4.cell? ⟨gb467, 1, none⟩ = some (.int .i64 a1_1) := (blk_cell BK467.out 1).trans rfl; have hfz5_0 := blk_frozen BK467.out 0; have hfz5_1 := blk_frozen BK467.out 1) | ((with_reducible refine gate_callee (f := 133) rfl ?_); refine goesL_ (some 7) rfl rfl Try.func133 (by kernel_rfl) rfl #[.slice A0 l0.length c0, .agg #[.int .i64 a1_0, .int .i64 a1_1]] rfl (by (try simp only [List.map_toArray, List.map_cons, List.map_nil]); first | done | rfl | (simp only [List.length_drop, List.length_take]; rfl)) ?_; (with_reducible refine (api_Edge_133.calls k _ _ l0 a1_0 a1_1 t468 _ ?side1 ?side2 A3.out).mono ?_); (case side1 => repeat (first | exact (Kd.C_below HR0.out HB.out) | (with_reducible refine Kd.C_alloc ?_ _) | (with_reducible refine Kd.C_drewN ?_ _) | (with_reducible refine Kd.C_drew ?_))); (case side2 => exact HC0.out); rintro e w6 ⟨rfl, hb⟩; refine ⟨_, rfl, ?_⟩; have n0_ := Aside0.mk (blk_below (g := gb467) (o := .cells #[.int .i64 a1_0, .int .i64 a1_1] 40 (0, 0)) (by (with_reducible repeat (first | refine blk_drewN ?_ _ | refine blk_drew ?_ | refine blk_alloc ?_ _)); exact BK467.out) hb); have n1_ := Aside0.mk (below_step (by repeat (first | (with_reducible first | exact HB.out | apply below_alloc | apply pw_below_drewN | apply below_drew1 | refine below_set ?_ GE467.out) | exact HB.out)) hb); clear BK467; clear HB; have BK467 := n0_; have HB := n1_; clear n0_ n1_; (try clear hb); (try clear hb2); (try clear hk); (try clear hi)))
 go_ret
 exact ⟨by first | rfl | (simp [errW_none, errW_some] <;> rfl) | (simp [*, errW_none, errW_some] <;> rfl), by repeat (first | (with_reducible first | exact HB.out | apply below_alloc | apply pw_below_drewN | apply below_drew1 | refine below_set ?_ GE467.out) | exact HB.out)⟩
/-! ### topo_Edge: function 30 -/
def topo_Edge.f (k : Nat) (a0_0 : Int) (l0_1 : List Bool) (l0_2 : List (List (S40))) (a1 : Int) (a2 : Int) (a3 : Int) : Option (Bool) := (topo_edges.f a0_0 l0_1 l0_2 a1).bind fun t470 => ((api_Edge_97.f k t470 a2 a3).bind fun t473 => (some t473))
theorem topo_Edge.mono : ∀ a0 a1 a2 a3 a4 a5 k, LeO (topo_Edge.f k a0 a1 a2 a3 a4 a5) (topo_Edge.f (k + 1) a0 a1 a2 a3 a4 a5) := by
 intro a0 a1 a2 a3 a4 a5 k
 unfold topo_Edge.f
 repeat' first
  | (with_reducible exact api_Edge_97.mono _ _ _ _)
  | (with_reducible exact LeO.refl _)
  | (with_reducible exact LeO.none _)
  | (with_reducible refine LeO.ite ?_ ?_)
  | (with_reducible refine LeO.bind ?_ (fun _ => ?_))
  | exact api_Edge_97.mono _ _ _ _
  | exact LeO.none _
  | refine LeO.ite ?_ ?_
  | refine LeO.bind ?_ (fun _ => ?_)
set_option maxHeartbeats 8000000 in
set_option maxRecDepth 100000 in
theorem topo_Edge.calls (k : Nat) (a0_0 : Int) (A0_1 : Option Addr) (c0_1 : Nat) (l0_1 : List Bool) (A0_2 : Option Addr) (c0_2 : Nat) (l0_2 : List (List (S40))) (a1 : Int) (a2 : Int) (a3 : Int) (r : Bool) (w : World) (hr0_1 : Kd.C Kd.bool w A0_1 l0_1.length l0_1) (hc0_1 : l0_1.length ≤ c0_1) (hr0_2 : Kd.C (Kd.slice 40 k40) w A0_2 l0_2.length l0_2) (hc0_2 : l0_2.length ≤ c0_2) (h : topo_Edge.f k a0_0 l0_1 l0_2 a1 a2 a3 = some r) :
 Calls Try.prog 30 #[.agg #[.int .u64 a0_0, .slice A0_1 l0_1.length c0_1, .slice A0_2 l0_2.length c0_2], .int .i64 a1, .int .i64 a2, .int .i64 a3] w fun e w' => e = .returned (.bool r) ∧ Below w.heap.size w w' := by
 have hu29 := Try.underlying29
 have hu40 := Try.underlying40
 have HR0_1 := Aside0.mk hr0_1
 have HC0_1 := Aside0.mk hc0_1
 clear hr0_1 hc0_1
 have HR0_2 := Aside0.mk hr0_2
 have HC0_2 := Aside0.mk hc0_2
 clear hr0_2 hc0_2
 have HB := Aside0.mk (Below.refl w.heap.size w)
 have H : ((topo_edges.f a0_0 l0_1 l0_2 a1).bind fun t470 => ((api_Edge_97.f k t470 a2 a3).bind fun t473 => (some t473))) = some r := h
 clear h
 replace H := Option.bind_eq_some_iff.mp H
 obtain ⟨t470, A50, H⟩ := H
 replace H : ((api_Edge_97.f k t470 a2 a3).bind fun t473 => (some t473)) = some r := H
 have A5 := Aside0.mk A50
 clear A50
 replace H := Option.bind_eq_some_iff.mp H
 obtain ⟨t473, A60, H⟩ := H
 replace H : (some t473) = some r := H
 have A6 := Aside0.mk A60
 clear A60
 obtain rfl := Option.some.inj H
 go_enter Try.func30, Try.ntmps30
 go_wp2_with (first | ((with_reducible refine gate_dst (N := 4) rfl ?_); refine box_event ?hg (N := 4) ?hd (cs := #[.int .u64 a0_0, .slice A0_1 l0_1.length c0_1, .slice A0_2 l0_2.length c0_2]) (t := 29) ?hr ?_; (case hd => rfl); (case hg => rfl); (case hr => first | (go_simp; done) | (go_simp; rfl)); intro gb469 hg w7 hbox hb; have n0_ := Aside0.mk (below_step (by repeat (first | (with_reducible first | exact HB.out | apply below_alloc | apply pw_below_drewN | apply below_drew1) | exact HB.out)) hb); have n1_ := Aside0.mk (hbox); have n2_ := Aside0.mk ((by rw [hg]; exact (below_size (by repeat (first | (with_reducible first | exact HB.out | apply below_alloc | apply pw_below_drewN | apply below_drew1) | exact HB.out))) : w.heap.size ≤ gb469)); have n3_ := Aside0.mk ((by rw [hg]; exact (below_size (by repeat (first | (with_reducible first | exact HB.out | apply below_alloc | apply pw_below_drewN | apply below_drew1) | exact HB.out))) : w.heap.size ≤ gb469)); clear HB; have HB := n0_; have BK469 := n1_; have GW469 := n2_; have GE469 := n3_; clear n0_ n1_ n2_ n3_; clear hb hbox hg; have hcz8_0 : w7.cell? ⟨gb469, 0, none⟩ = some (.int .u64 a0_0) := (blk_cell BK469.out 0).trans rfl; have hcz8_1 : w7.cell? ⟨gb469, 1, none⟩ = some (.slice A0_1 l0_1.length c0_1) := (blk_cell BK469.out 1).trans rfl; have hcz8_2 : w7.cell? ⟨gb469, 2, none⟩ = some (.slice A0_2 l0_2.length c0_2) := (blk_cell BK469.out 2).trans rfl; have hfz8_0 := blk_frozen BK469.out 0; have hfz8_1 := blk_frozen BK469.out 1; have hfz8_2 := blk_frozen BK469.out 2) | ((with_reducible refine gate_callee (f := 94) rfl ?_); refine goesL_ (some 11) rfl rfl Try.func94 (by kernel_rfl) rfl #[.agg #[.int .u64 a0_0, .slice A0_1 l0_1.length c0_1, .slice A0_2 l0_2.length c0_2], .int .i64 a1] rfl (by (try simp only [List.map_toArray, List.map_cons, List.map_nil]); first | done | rfl | (simp only [List.length_drop, List.length_take]; rfl)) ?_; (with_reducible refine (topo_edges.calls a0_0 _ _ l0_1 (fun k_ => k_ < w.heap.size) _ _ l0_2 a1 t470 _ ?side1 ?side2 ?side3 A5.out).mono ?_); (case side1 => repeat (first | exact (Kd.C_below HR0_1.out HB.out) | (with_reducible refine Kd.C_alloc ?_ _) | (with_reducible refine Kd.C_drewN ?_ _) | (with_reducible refine Kd.C_drew ?_))); (case side2 => exact HC0_1.out); (case side3 => exact Kd.V_mk HC0_2.out (Kd.F_below (Kd.C_F (Kd.heap_slice 40 k40_heap) HR0_2.out) (by repeat (first | (with_reducible first | exact HB.out | apply below_alloc | apply pw_below_drewN | apply below_drew1 | refine below_set ?_ GE469.out) | exact HB.out)))); rintro e w9 ⟨v471, rfl, ho0, hb⟩; refine ⟨_, rfl, ?_⟩; have n0_ := Aside0.mk (Kd.V_lower (Kd.V_mono (ok' := fun k_ => k_ ≠ gb469) ho0 (fun k_ hk_ => Or.elim hk_ (fun hs_ => fun e_ => Nat.not_le.2 hs_ (by rw [e_]; exact GW469.out)) (fun hn_ => (Kd.freshB (g := gb469) (o := .cells #[.int .u64 a0_0, .slice A0_1 l0_1.length c0_1, .slice A0_2 l0_2.length c0_2] 29 (0, 0)) (by (with_reducible repeat (first | refine blk_drewN ?_ _ | refine blk_drew ?_ | refine blk_alloc ?_ _)); exact BK469.out) k_ hn_)))) (below_size (by repeat (first | (with_reducible first | exact HB.out | apply below_alloc | apply pw_below_drewN | apply below_drew1 | refine below_set ?_ GE469.out) | exact HB.out)))); have n1_ := Aside0.mk (blk_below (g := gb469) (o := .cells #[.int .u64 a0_0, .slice A0_1 l0_1.length c0_1, .slice A0_2 l0_2.length c0_2] 29 (0, 0)) (by (with_reducible repeat (first | refine blk_drewN ?_ _ | refine blk_drew ?_ | refine blk_alloc ?_ _)); exact BK469.out) hb); have n2_ := Aside0.mk (below_step (by repeat (first | (with_reducible first | exact HB.out | apply below_alloc | apply pw_below_drewN | apply below_drew1 | refine below_set ?_ GE469.out) | exact HB.out)) hb); clear BK469; clear HB; have HO472 := n0_; have BK469 := n1_; have HB := n2_; clear n0_ n1_ n2_; (try clear hb); (try clear hb2); (try clear hk); (try clear hi); (try clear ho0); obtain ⟨Ao10, co10, eo10⟩ := Kd.V_slice HO472.out; subst eo10) | ((with_reducible refine gate_callee (f := 97) rfl ?_); refine goesL_ (some 15) rfl rfl Try.func97 (by kernel_rfl) rfl #[.slice Ao10 t470.length co10, .agg #[.int .i64 a2, .int .i64 a3]] rfl (by (try simp only [List.map_toArray, List.map_cons, List.map_nil]); first | done | rfl | (simp only [List.length_drop, List.length_take]; rfl)) ?_; (with_reducible refine (api_Edge_97.calls k _ _ t470 a2 a3 t473 _ ?side1 ?side2 A6.out).mono ?_); (case side1 => repeat (first | exact (Kd.V_reads' HO472.out).2.2 | (with_reducible refine Kd.C_alloc ?_ _) | (with_reducible refine Kd.C_drewN ?_ _) | (with_reducible refine Kd.C_drew ?_))); (case side2 => exact (Kd.V_reads' HO472.out).2.1); rintro e w11 ⟨rfl, hb⟩; refine ⟨_, rfl, ?_⟩; have n0_ := Aside0.mk (Kd.V_below (by (with_reducible repeat (first | apply Kd.V_alloc | apply Kd.V_drewN | apply Kd.V_drew)); exact HO472.out) hb); have n1_ := Aside0.mk (blk_below (g := gb469) (o := .cells #[.int .u64 a0_0, .slice A0_1 l0_1.length c0_1, .slice A0_2 l0_2.length c0_2] 29 (0, 0)) (by (with_reducible repeat (first | refine blk_drewN ?_ _ | refine blk_drew ?_ | refine blk_alloc ?_ _)); exact BK469.out) hb); have n2_ := Aside0.mk (below_step (by repeat (first | (with_reducible first | exact HB.out | apply below_alloc | apply pw_below_drewN | apply below_drew1 | refine below_set ?_ GE469.out) | exact HB.out)) hb); clear HO472; clear BK469; clear HB; have HO472 := n0_; have BK469 := n1_; have HB := n2_; clear n0_ n1_ n2_; (try clear hb); (try clear hb2); (try clear hk); (try clear hi)))
 go_ret
 exact ⟨by first | rfl | (simp [errW_none, errW_some] <;> rfl) | (simp [*, errW_none, errW_some] <;> rfl), by repeat (first | (with_reducible first | exact HB.out | apply below_alloc | apply pw_below_drewN | apply below_drew1 | refine below_set ?_ GE469.out) | exact HB.out)⟩
/-! ### braidworkref19_Edge: function 31 -/
def braidworkref19_Edge.f (k : Nat) (a0_0 : Int) (l0_1 : List Bool) (l0_2 : List (List (S40))) (a1 : Int) (a2 : Int) (a3 : Int) : Option (Bool) := (braidworkref19_Next.f k a0_0 l0_1 l0_2 a1 a2).bind fun t475 => ((braidworkref19_Has.f k t475 a3).bind fun t478 => (some t478))
theorem braidworkref19_Edge.mono : ∀ a0 a1 a2 a3 a4 a5 k, LeO (braidworkref19_Edge.f k a0 a1 a2 a3 a4 a5) (braidworkref19_Edge.f (k + 1) a0 a1 a2 a3 a4 a5) := by
 intro a0 a1 a2 a3 a4 a5 k
 unfold braidworkref19_Edge.f
 repeat' first
  | (with_reducible exact braidworkref19_Has.mono _ _ _)
  | (with_reducible exact braidworkref19_Next.mono _ _ _ _ _ _)
  | (with_reducible exact LeO.refl _)
  | (with_reducible exact LeO.none _)
  | (with_reducible refine LeO.ite ?_ ?_)
  | (with_reducible refine LeO.bind ?_ (fun _ => ?_))
  | exact braidworkref19_Has.mono _ _ _
  | exact braidworkref19_Next.mono _ _ _ _ _ _
  | exact LeO.none _
  | refine LeO.ite ?_ ?_
  | refine LeO.bind ?_ (fun _ => ?_)
set_option maxHeartbeats 8000000 in
set_option maxRecDepth 100000 in
theorem braidworkref19_Edge.calls (k : Nat) (a0_0 : Int) (A0_1 : Option Addr) (c0_1 : Nat) (l0_1 : List Bool) (A0_2 : Option Addr) (c0_2 : Nat) (l0_2 : List (List (S40))) (a1 : Int) (a2 : Int) (a3 : Int) (r : Bool) (w : World) (hr0_1 : Kd.C Kd.bool w A0_1 l0_1.length l0_1) (hc0_1 : l0_1.length ≤ c0_1) (hr0_2 : Kd.C (Kd.slice 40 k40) w A0_2 l0_2.length l0_2) (hc0_2 : l0_2.length ≤ c0_2) (h : braidworkref19_Edge.f k a0_0 l0_1 l0_2 a1 a2 a3 = some r) :
 Calls Try.prog 31 #[.agg #[.int .u64 a0_0, .slice A0_1 l0_1.length c0_1, .slice A0_2 l0_2.length c0_2], .int .i64 a1, .int .i64 a2, .int .i64 a3] w fun e w' => e = .returned (.bool r) ∧ Below w.heap.size w w' := by
 have hu29 := Try.underlying29
 have HR0_1 := Aside0.mk hr0_1
 have HC0_1 := Aside0.mk hc0_1
 clear hr0_1 hc0_1
 have HR0_2 := Aside0.mk hr0_2
 have HC0_2 := Aside0.mk hc0_2
 clear hr0_2 hc0_2
 have HB := Aside0.mk (Below.refl w.heap.size w)
 have H : ((braidworkref19_Next.f k a0_0 l0_1 l0_2 a1 a2).bind fun t475 => ((braidworkref19_Has.f k t475 a3).bind fun t478 => (some t478))) = some r := h
 clear h
 replace H := Option.bind_eq_some_iff.mp H
 obtain ⟨t475, A50, H⟩ := H
 replace H : ((braidworkref19_Has.f k t475 a3).bind fun t478 => (some t478)) = some r := H
 have A5 := Aside0.mk A50
 clear A50
 replace H := Option.bind_eq_some_iff.mp H
 obtain ⟨t478, A60, H⟩ := H
 replace H : (some t478) = some r := H
 have A6 := Aside0.mk A60
 clear A60
 obtain rfl := Option.some.inj H
 go_enter Try.func31, Try.ntmps31
 go_wp2_with (first | ((with_reducible refine gate_dst (N := 4) rfl ?_); refine box_event ?hg (N := 4) ?hd (cs := #[.int .u64 a0_0, .slice A0_1 l0_1.length c0_1, .slice A0_2 l0_2.length c0_2]) (t := 29) ?hr ?_; (case hd => rfl); (case hg => rfl); (case hr => first | (go_simp; done) | (go_simp; rfl)); intro gb474 hg w7 hbox hb; have n0_ := Aside0.mk (below_step (by repeat (first | (with_reducible first | exact HB.out | apply below_alloc | apply pw_below_drewN | apply below_drew1) | exact HB.out)) hb); have n1_ := Aside0.mk (hbox); have n2_ := Aside0.mk ((by rw [hg]; exact (below_size (by repeat (first | (with_reducible first | exact HB.out | apply below_alloc | apply pw_below_drewN | apply below_drew1) | exact HB.out))) : w.heap.size ≤ gb474)); have n3_ := Aside0.mk ((by rw [hg]; exact (below_size (by repeat (first | (with_reducible first | exact HB.out | apply below_alloc | apply pw_below_drewN | apply below_drew1) | exact HB.out))) : w.heap.size ≤ gb474)); clear HB; have HB := n0_; have BK474 := n1_; have GW474 := n2_; have GE474 := n3_; clear n0_ n1_ n2_ n3_; clear hb hbox hg; have hcz8_0 : w7.cell? ⟨gb474, 0, none⟩ = some (.int .u64 a0_0) := (blk_cell BK474.out 0).trans rfl; have hcz8_1 : w7.cell? ⟨gb474, 1, none⟩ = some (.slice A0_1 l0_1.length c0_1) := (blk_cell BK474.out 1).trans rfl; have hcz8_2 : w7.cell? ⟨gb474, 2, none⟩ = some (.slice A0_2 l0_2.length c0_2) := (blk_cell BK474.out 2).trans rfl; have hfz8_0 := blk_frozen BK474.out 0; have hfz8_1 := blk_frozen BK474.out 1; have hfz8_2 := blk_frozen BK474.out 2) | ((with_reducible refine gate_callee (f := 25) rfl ?_); refine goesL_ (some 12) rfl rfl Try.func25 (by kernel_rfl) rfl #[.agg #[.int .u64 a0_0, .slice A0_1 l0_1.length c0_1, .slice A0_2 l0_2.length c0_2], .int .i64 a1, .int .i64 a2] rfl (by (try simp only [List.map_toArray, List.map_cons, List.map_nil]); first | done | rfl | (simp only [List.length_drop, List.length_take]; rfl)) ?_; (with_reducible refine (braidworkref19_Next.calls k a0_0 _ _ l0_1 _ _ l0_2 a1 a2 t475 _ ?side1 ?side2 ?side3 ?side4 A5.out).mono ?_); (case side1 => repeat (first | exact (Kd.C_below HR0_1.out HB.out) | (with_reducible refine Kd.C_alloc ?_ _) | (with_reducible refine Kd.C_drewN ?_ _) | (with_reducible refine Kd.C_drew ?_))); (case side2 => exact HC0_1.out); (case side3 => repeat (first | exact (Kd.C_below HR0_2.out HB.out) | (with_reducible refine Kd.C_alloc ?_ _) | (with_reducible refine Kd.C_drewN ?_ _) | (with_reducible refine Kd.C_drew ?_))); (case side4 => exact HC0_2.out); rintro e w9 ⟨v476, rfl, ho0, hb⟩; refine ⟨_, rfl, ?_⟩; have n0_ := Aside0.mk (Kd.R_lower ho0 (below_size (by repeat (first | (with_reducible first | exact HB.out | apply below_alloc | apply pw_below_drewN | apply below_drew1 | refine below_set ?_ GE474.out) | exact HB.out)))); have n1_ := Aside0.mk (blk_below (g := gb474) (o := .cells #[.int .u64 a0_0, .slice A0_1 l0_1.length c0_1, .slice A0_2 l0_2.length c0_2] 29 (0, 0)) (by (with_reducible repeat (first | refine blk_drewN ?_ _ | refine blk_drew ?_ | refine blk_alloc ?_ _)); exact BK474.out) hb); have n2_ := Aside0.mk (below_step (by repeat (first | (with_reducible first | exact HB.out | apply below_alloc | apply pw_below_drewN | apply below_drew1 | refine below_set ?_ GE474.out) | exact HB.out)) hb); clear BK474; clear HB; have HO477 := n0_; have BK474 := n1_; have HB := n2_; clear n0_ n1_ n2_; (try clear hb); (try clear hb2); (try clear hk); (try clear hi); (try clear ho0); obtain ⟨Ao10, co10, eo10⟩ := Kd.R_slice HO477.out; subst eo10) | ((with_reducible refine gate_callee (f := 79) rfl ?_); refine goesL_ (some 14) rfl rfl Try.func79 (by kernel_rfl) rfl #[.slice Ao10 t475.length co10, .int .i64 a3] rfl (by (try simp only [List.map_toArray, List.map_cons, List.map_nil]); first | done | rfl | (simp only [List.length_drop, List.length_take]; rfl)) ?_; (with_reducible refine (braidworkref19_Has.calls k _ _ t475 a3 t478 _ ?side1 ?side2 A6.out).mono ?_); (case side1 => repeat (first | exact (Kd.R_reads' HO477.out).2.2 | (with_reducible refine Kd.C_alloc ?_ _) | (with_reducible refine Kd.C_drewN ?_ _) | (with_reducible refine Kd.C_drew ?_))); (case side2 => exact (Kd.R_reads' HO477.out).2.1); rintro e w' ⟨rfl, ⟨nd, rfl⟩⟩; refine ⟨_, rfl, ?_⟩))
 go_ret
 exact ⟨by first | rfl | (simp [errW_none, errW_some] <;> rfl) | (simp [*, errW_none, errW_some] <;> rfl), by repeat (first | (with_reducible first | exact HB.out | apply below_alloc | apply pw_below_drewN | apply below_drew1 | refine below_set ?_ GE474.out) | exact HB.out)⟩
/-! ### braidworklaw19_diamond: function 98 -/
def braidworklaw19_diamond.f (l0 : List (S40)) : Option (Int × List Bool × (List (List (S40)))) := (some (([(⟨0, 2⟩ : S40), (⟨0, 3⟩ : S40), (⟨2, 4⟩ : S40), (⟨3, 4⟩ : S40)] : List (S40)) : List (S40))).bind fun y483 => (if y483.length + l0.length < 8796093022208 then (some (1, (([true, true, true, true, true] : List Bool)), (([(y483 ++ l0)] : List (List (S40)))))) else (none))
set_option maxHeartbeats 8000000 in
set_option maxRecDepth 100000 in
theorem braidworklaw19_diamond.calls (A0 : Option Addr) (c0 : Nat) (l0 : List (S40)) (r1 : Int) (r2 : List Bool) (r3 : List (List (S40))) (w : World) (hr0 : Kd.C k40 w A0 l0.length l0) (hc0 : l0.length ≤ c0) (h : braidworklaw19_diamond.f l0 = some (r1, r2, r3)) :
 Calls Try.prog 98 #[.slice A0 l0.length c0] w fun e w' => ∃ v1_ v2_ : Value, e = .returned (.agg #[.int .u64 r1, v1_, v2_]) ∧ Kd.R Kd.bool 4 w' w.heap.size (fun k_ => (w.heap.size ≤ k_)) v1_ r2 ∧ Kd.N (Kd.slice 40 k40) 38 w' w.heap.size (fun k_ => (w.heap.size ≤ k_) ∧ some k_ ≠ (v1_ : Value).ownBlock) v2_ r3 ∧ Below w.heap.size w w' := by
 have hu29 := Try.underlying29
 have hu40 := Try.underlying40
 have HR0 := Aside0.mk hr0
 have HC0 := Aside0.mk hc0
 clear hr0 hc0
 have HB := Aside0.mk (Below.refl w.heap.size w)
 have H : ((some (([(⟨0, 2⟩ : S40), (⟨0, 3⟩ : S40), (⟨2, 4⟩ : S40), (⟨3, 4⟩ : S40)] : List (S40)) : List (S40))).bind fun y483 => (if y483.length + l0.length < 8796093022208 then (some (1, (([true, true, true, true, true] : List Bool)), (([(y483 ++ l0)] : List (List (S40)))))) else (none))) = some (r1, r2, r3) := h
 clear h
 obtain ⟨y480, hy480⟩ : ∃ y_ : List Bool, y_ = (([true, true, true, true, true] : List Bool)) := ⟨_, rfl⟩
 replace H : ((some (([(⟨0, 2⟩ : S40), (⟨0, 3⟩ : S40), (⟨2, 4⟩ : S40), (⟨3, 4⟩ : S40)] : List (S40)) : List (S40))).bind fun y483 => (if y483.length + l0.length < 8796093022208 then (some (1, y480, (([(y483 ++ l0)] : List (List (S40)))))) else (none))) = some (r1, r2, r3) := by first | (rw [hy480]; with_reducible exact H) | (have H2_ := (Option.bind_some _ _).symm.trans H; rw [hy480]; with_reducible exact H2_) | (have H2_ := (Option.bind_some _ _).symm.trans H; with_reducible exact H2_) | with_reducible exact H | (rw [hy480]; exact H) | exact H
 have Ny480 := Aside0.mk hy480
 clear hy480
 obtain ⟨y483, hy483⟩ : ∃ y_ : List (S40), y_ = (([(⟨0, 2⟩ : S40), (⟨0, 3⟩ : S40), (⟨2, 4⟩ : S40), (⟨3, 4⟩ : S40)] : List (S40))) := ⟨_, rfl⟩
 replace H : (if y483.length + l0.length < 8796093022208 then (some (1, y480, (([(y483 ++ l0)] : List (List (S40)))))) else (none)) = some (r1, r2, r3) := by first | (rw [hy483]; with_reducible exact H) | (have H2_ := (Option.bind_some _ _).symm.trans H; rw [hy483]; with_reducible exact H2_) | (have H2_ := (Option.bind_some _ _).symm.trans H; with_reducible exact H2_) | with_reducible exact H | (rw [hy483]; exact H) | exact H
 have Ny483 := Aside0.mk hy483
 clear hy483
 by_cases c2 : y483.length + l0.length < 8796093022208
 · rw [if_pos c2] at H
   have LMc2 := Aside0.mk c2
   clear c2
   obtain ⟨y486, hy486⟩ : ∃ y_ : List (S40), y_ = (y483 ++ l0) := ⟨_, rfl⟩
   replace H : (some (1, y480, (([y486] : List (List (S40)))))) = some (r1, r2, r3) := by first | (rw [hy486]; with_reducible exact H) | (have H2_ := (Option.bind_some _ _).symm.trans H; rw [hy486]; with_reducible exact H2_) | (have H2_ := (Option.bind_some _ _).symm.trans H; with_reducible exact H2_) | with_reducible exact H | (rw [hy486]; exact H) | exact H
   have Ny486 := Aside0.mk hy486
   clear hy486
   obtain ⟨y489, hy489⟩ : ∃ y_ : List (List (S40)), y_ = (([y486] : List (List (S40)))) := ⟨_, rfl⟩
   replace H : (some (1, y480, y489)) = some (r1, r2, r3) := by first | (rw [hy489]; with_reducible exact H) | (have H2_ := (Option.bind_some _ _).symm.trans H; rw [hy489]; with_reducible exact H2_) | (have H2_ := (Option.bind_some _ _).symm.trans H; with_reducible exact H2_) | with_reducible exact H | (rw [hy489]; exact H) | exact H
   have Ny489 := Aside0.mk hy489
   clear hy489
   simp only [Option.some.injEq, Prod.mk.injEq] at H
   obtain ⟨rfl, rfl, rfl⟩ := H
   go_enter Try.func98, Try.ntmps98
   go_wp2_with (first | ((with_reducible refine gate_dst (N := 2) rfl ?_); refine box_event ?hg (N := 2) ?hd (cs := #[.int .u64 0, .slice none 0 0, .slice none 0 0]) (t := 29) ?hr ?_; (case hd => rfl); (case hg => rfl); (case hr => first | (go_simp; done) | (go_simp; rfl)); intro gb479 hg w3 hbox hb; have n0_ := Aside0.mk (below_step (by repeat (first | (with_reducible first | exact HB.out | apply below_alloc | apply pw_below_drewN | apply below_drew1) | exact HB.out)) hb); have n1_ := Aside0.mk (hbox); have n2_ := Aside0.mk ((by rw [hg]; exact (below_size (by repeat (first | (with_reducible first | exact HB.out | apply below_alloc | apply pw_below_drewN | apply below_drew1) | exact HB.out))) : w.heap.size ≤ gb479)); have n3_ := Aside0.mk ((by rw [hg]; exact (below_size (by repeat (first | (with_reducible first | exact HB.out | apply below_alloc | apply pw_below_drewN | apply below_drew1) | exact HB.out))) : w.heap.size ≤ gb479)); clear HB; have HB := n0_; have BK479 := n1_; have GW479 := n2_; have GE479 := n3_; clear n0_ n1_ n2_ n3_; clear hb hbox hg) | ((with_reducible refine gate_dst (N := 3) rfl ?_); refine Kd.R_lit Kd.bool _ 4 ?hg (N := 3) ?hd (xs := ([true, true, true, true, true] : List Bool)) (inner := [.bool true, .bool true, .bool true, .bool true, .bool true]) (ok := fun _ => True) (okp := fun _ => True) ?hr ?hp (fun _ hk => hk) trivial (Below.refl _ _) (Nat.le_refl _) (by simp) ?_; (case hd => rfl); (case hg => rfl); (case hr => first | (go_simp; done) | (go_simp; rfl)); (case hp => exact (Reps.one (show Kd.M Kd.bool _ _ _ true [.bool true] from rfl) (Reps.one (show Kd.M Kd.bool _ _ _ true [.bool true] from rfl) (Reps.one (show Kd.M Kd.bool _ _ _ true [.bool true] from rfl) (Reps.one (show Kd.M Kd.bool _ _ _ true [.bool true] from rfl) (Reps.one (show Kd.M Kd.bool _ _ _ true [.bool true] from rfl) (Reps.none _ _))))))); intro v481 w4 ho5 hb hg_ hnew_; clear hg_ hnew_; (first | rw [← Ny480.out] at ho5 | (simp only [Int.reduceToNat] at ho5; rw [← Ny480.out] at ho5)); have n0_ := Aside0.mk (Kd.R_lower (Kd.R_newM (M := fun k_ => (w.heap.size ≤ k_)) ho5 (below_size (by repeat (first | (with_reducible first | exact HB.out | apply below_alloc | apply pw_below_drewN | apply below_drew1 | refine below_set ?_ GE479.out) | exact HB.out))) (fun k_ h_ => h_)) (below_size (by repeat (first | (with_reducible first | exact HB.out | apply below_alloc | apply pw_below_drewN | apply below_drew1 | refine below_set ?_ GE479.out) | exact HB.out)))); have n1_ := Aside0.mk (blk_below (g := gb479) (o := .cells #[.int .u64 0, .slice none 0 0, .slice none 0 0] 29 (0, 0)) (by (with_reducible repeat (first | refine blk_drewN ?_ _ | refine blk_drew ?_ | refine blk_alloc ?_ _)); exact BK479.out) hb); have n2_ := Aside0.mk (below_step (by repeat (first | (with_reducible first | exact HB.out | apply below_alloc | apply pw_below_drewN | apply below_drew1 | refine below_set ?_ GE479.out) | exact HB.out)) hb); clear BK479; clear HB; have HO482 := n0_; have BK479 := n1_; have HB := n2_; clear n0_ n1_ n2_; clear hb ho5) | ((with_reducible refine gate_dst (N := 8) rfl ?_); refine Kd.R_lit k40 _ 40 ?hg (N := 8) ?hd (xs := ([(⟨0, 2⟩ : S40), (⟨0, 3⟩ : S40), (⟨2, 4⟩ : S40), (⟨3, 4⟩ : S40)] : List (S40))) (inner := [.int .i64 0, .int .i64 2, .int .i64 0, .int .i64 3, .int .i64 2, .int .i64 4, .int .i64 3, .int .i64 4]) (ok := fun _ => True) (okp := fun _ => True) ?hr ?hp (fun _ hk => hk) trivial (Below.refl _ _) (Nat.le_refl _) (by simp) ?_; (case hd => rfl); (case hg => rfl); (case hr => first | (go_simp; done) | (go_simp; rfl)); (case hp => exact (Reps.c2 (show Kd.M k40 _ _ _ (⟨0, 2⟩ : S40) [.int .i64 0, .int .i64 2] from (k40_mkM _ _ _ (⟨0, 2⟩ : S40) )) (Reps.c2 (show Kd.M k40 _ _ _ (⟨0, 3⟩ : S40) [.int .i64 0, .int .i64 3] from (k40_mkM _ _ _ (⟨0, 3⟩ : S40) )) (Reps.c2 (show Kd.M k40 _ _ _ (⟨2, 4⟩ : S40) [.int .i64 2, .int .i64 4] from (k40_mkM _ _ _ (⟨2, 4⟩ : S40) )) (Reps.c2 (show Kd.M k40 _ _ _ (⟨3, 4⟩ : S40) [.int .i64 3, .int .i64 4] from (k40_mkM _ _ _ (⟨3, 4⟩ : S40) )) (Reps.none _ _)))))); intro v484 w6 ho7 hb hg_ hnew_; clear hg_ hnew_; (first | rw [← Ny483.out] at ho7 | (simp only [Int.reduceToNat] at ho7; rw [← Ny483.out] at ho7)); have n0_ := Aside0.mk (Kd.R_below (by (with_reducible repeat (first | apply Kd.R_alloc | apply Kd.R_drewN | apply Kd.R_drew)); exact HO482.out) hb); have n1_ := Aside0.mk (Kd.R_lower (Kd.R_newM (M := fun k_ => (w.heap.size ≤ k_)) ho7 (below_size (by repeat (first | (with_reducible first | exact HB.out | apply below_alloc | apply pw_below_drewN | apply below_drew1 | refine below_set ?_ GE479.out) | exact HB.out))) (fun k_ h_ => h_)) (below_size (by repeat (first | (with_reducible first | exact HB.out | apply below_alloc | apply pw_below_drewN | apply below_drew1 | refine below_set ?_ GE479.out) | exact HB.out)))); have n2_ := Aside0.mk (blk_below (g := gb479) (o := .cells #[.int .u64 0, .slice none 0 0, .slice none 0 0] 29 (0, 0)) (by (with_reducible repeat (first | refine blk_drewN ?_ _ | refine blk_drew ?_ | refine blk_alloc ?_ _)); exact BK479.out) hb); have n3_ := Aside0.mk (below_step (by repeat (first | (with_reducible first | exact HB.out | apply below_alloc | apply pw_below_drewN | apply below_drew1 | refine below_set ?_ GE479.out) | exact HB.out)) hb); clear HO482; clear BK479; clear HB; have HO482 := n0_; have HO485 := n1_; have BK479 := n2_; have HB := n3_; clear n0_ n1_ n2_ n3_; clear hb ho7) | ((with_reducible refine gate_builtin (b := .append) (xs := #[.tmp 8, .tmp 9]) rfl ?_); at_builtin; refine Kd.R_append_rows k40 (w0 := w) w.heap.size rfl (.tmp 8) (.tmp 9) 38 40 (.agg #[(.int .i64 0), (.int .i64 0)]) 16 rfl Try.underlying38 info40 rfl (by decide) (by omega) v484 y483 l0 _ _ _ (fun k_ => (w.heap.size ≤ k_)) (fun _ => False) rfl rfl ?aO ?aR (fun _ _ h => h) (fun _ h => h.elim) ?aF ?aB ?aS ?aL ?_; (case aR => repeat (first | exact (Kd.C_below HR0.out HB.out) | (with_reducible refine Kd.C_alloc ?_ _) | (with_reducible refine Kd.C_drewN ?_ _) | (with_reducible refine Kd.C_drew ?_))); (case aB => exact (by repeat (first | (with_reducible first | exact HB.out | apply below_alloc | apply pw_below_drewN | apply below_drew1 | refine below_set ?_ GE479.out) | exact HB.out))); (case aF => exact (fun k_ hk => (Nat.le_trans (below_size (by repeat (first | (with_reducible first | exact HB.out | apply below_alloc | apply pw_below_drewN | apply below_drew1 | refine below_set ?_ GE479.out) | exact HB.out))) hk))); (case aO => exact (by (with_reducible repeat (first | apply Kd.R_alloc | apply Kd.R_drewN | apply Kd.R_drew)); exact Kd.R_mono HO485.out (fun _ hk => hk.1))); (case aS => exact (below_size (by repeat (first | (with_reducible first | exact HB.out | apply below_alloc | apply pw_below_drewN | apply below_drew1 | refine below_set ?_ GE479.out) | exact HB.out)))); (case aL => have := LMc2.out; omega); intro v487 w8 ho hb hg hat; rw [← Ny486.out] at ho; have n0_ := Aside0.mk (blk_grown (g := gb479) (o := .cells #[.int .u64 0, .slice none 0 0, .slice none 0 0] 29 (0, 0)) (by (with_reducible repeat (first | refine blk_drewN ?_ _ | refine blk_drew ?_ | refine blk_alloc ?_ _)); exact BK479.out) hg (Kd.R_ne HO485.out BK479.out (by decide))); have n1_ := Aside0.mk (Kd.R_over' (by (with_reducible repeat (first | apply Kd.R_alloc | apply Kd.R_drewN | apply Kd.R_drew)); exact HO482.out) (Kd.R_typed (by (with_reducible repeat (first | apply Kd.R_alloc | apply Kd.R_drewN | apply Kd.R_drew)); exact HO485.out)) (by decide) hg); have n2_ := Aside0.mk (hb); have n3_ := Aside0.mk (ho); clear BK479; clear HO482; clear HB; clear HO485; have BK479 := n0_; have HO482 := n1_; have HB := n2_; have HO488 := n3_; clear n0_ n1_ n2_ n3_; clear ho hb hg hat; obtain ⟨Ao9, co9, eo9⟩ := Kd.R_slice HO488.out; subst eo9) | ((with_reducible refine gate_dst (N := 11) rfl ?_); refine Kd.N_lit (Kd.slice 40 k40) _ 38 ?hg (N' := 11) ?hd (xs := ([y486] : List (List (S40)))) (inner := [.slice Ao9 y486.length co9]) (ok := (fun k_ => (w.heap.size ≤ k_) ∧ some k_ ≠ (v481 : Value).ownBlock ∧ k_ ≠ gb479)) (okp := (fun k_ => (w.heap.size ≤ k_) ∧ some k_ ≠ (v481 : Value).ownBlock ∧ k_ ≠ gb479)) ?hr ?hp (fun _ hk => hk) ((show ∀ k_, w8.heap.size ≤ k_ → (fun k_ => (w.heap.size ≤ k_) ∧ some k_ ≠ (v481 : Value).ownBlock ∧ k_ ≠ gb479) k_ from fun k_ hk => ⟨(Nat.le_trans (below_size (by repeat (first | (with_reducible first | exact HB.out | apply below_alloc | apply pw_below_drewN | apply below_drew1 | refine below_set ?_ GE479.out) | exact HB.out))) hk), Kd.fresh' (Kd.R_lt (by (with_reducible repeat (first | apply Kd.R_alloc | apply Kd.R_drewN | apply Kd.R_drew)); exact HO482.out)) k_ hk, Kd.freshB (g := gb479) (o := .cells #[.int .u64 0, .slice none 0 0, .slice none 0 0] 29 (0, 0)) (by (with_reducible repeat (first | refine blk_drewN ?_ _ | refine blk_drew ?_ | refine blk_alloc ?_ _)); exact BK479.out) k_ hk⟩) _ (Nat.le_refl _)) (Below.refl _ _) (Nat.le_refl _) (by simp) ?_; (case hd => rfl); (case hg => rfl); (case hr => first | (go_simp; done) | (go_simp; rfl)); (case hp => exact (Reps.one (show Kd.FK (Kd.slice 40 k40) _ _ y486 [.slice Ao9 y486.length co9] from (Kd.FK_slice_mk (Kd.R_reads' (Kd.R_mono (ok' := (fun k_ => (w.heap.size ≤ k_) ∧ some k_ ≠ (v481 : Value).ownBlock ∧ k_ ≠ gb479)) (Kd.R_types (Kd.R_apart' (HO488.out) (Kd.R_typed HO482.out) (by decide)) BK479.out (by decide)) (fun k_ hk => ⟨hk.1.1, ⟨hk.1.2, hk.2⟩⟩))).2.1 (Kd.R_F (Kd.R_mono (ok' := (fun k_ => (w.heap.size ≤ k_) ∧ some k_ ≠ (v481 : Value).ownBlock ∧ k_ ≠ gb479)) (Kd.R_types (Kd.R_apart' (HO488.out) (Kd.R_typed HO482.out) (by decide)) BK479.out (by decide)) (fun k_ hk => ⟨hk.1.1, ⟨hk.1.2, hk.2⟩⟩))))) (Reps.none _ _))); intro v490 w10 ho11 hb hg_ hnew_; clear hg_ hnew_; (first | rw [← Ny489.out] at ho11 | (simp only [Int.reduceToNat] at ho11; rw [← Ny489.out] at ho11)); have n0_ := Aside0.mk (Kd.R_below (by (with_reducible repeat (first | apply Kd.R_alloc | apply Kd.R_drewN | apply Kd.R_drew)); exact HO482.out) hb); have n1_ := Aside0.mk (Kd.N_lower ho11 (below_size (by repeat (first | (with_reducible first | exact HB.out | apply below_alloc | apply pw_below_drewN | apply below_drew1 | refine below_set ?_ GE479.out) | exact HB.out)))); have n2_ := Aside0.mk (blk_below (g := gb479) (o := .cells #[.int .u64 0, .slice none 0 0, .slice none 0 0] 29 (0, 0)) (by (with_reducible repeat (first | refine blk_drewN ?_ _ | refine blk_drew ?_ | refine blk_alloc ?_ _)); exact BK479.out) hb); have n3_ := Aside0.mk (below_step (by repeat (first | (with_reducible first | exact HB.out | apply below_alloc | apply pw_below_drewN | apply below_drew1 | refine below_set ?_ GE479.out) | exact HB.out)) hb); clear HO482; clear BK479; clear HB; clear HO488; have HO482 := n0_; have HO491 := n1_; have BK479 := n2_; have HB := n3_; clear n0_ n1_ n2_ n3_; clear hb ho11; obtain ⟨Ao12, co12, eo12⟩ := Kd.N_slice HO491.out; subst eo12; obtain ⟨Ao13, co13, eo13⟩ := Kd.R_slice HO482.out; subst eo13; have hcz14_0 : w10.cell? ⟨gb479, 0, none⟩ = some (.int .u64 0) := (blk_cell BK479.out 0).trans rfl; have hcz14_1 : w10.cell? ⟨gb479, 1, none⟩ = some (.slice none 0 0) := (blk_cell BK479.out 1).trans rfl; have hcz14_2 : w10.cell? ⟨gb479, 2, none⟩ = some (.slice none 0 0) := (blk_cell BK479.out 2).trans rfl; have hfz14_0 := blk_frozen BK479.out 0; have hfz14_1 := blk_frozen BK479.out 1; have hfz14_2 := blk_frozen BK479.out 2))
   refine bodyPost_ret (results_cell_row rfl _ _ gb479 29 #[.int .u64 1, .slice Ao13 y480.length co13, .slice Ao12 y489.length co12] (0, 0) _ rfl (by (with_reducible repeat (first | refine blk_drewN ?_ _ | refine blk_drew ?_ | refine blk_alloc ?_ _)); refine blk_put (cs := #[.int .u64 1, .slice Ao13 y480.length co13, .slice none 0 0]) ?_ 2 _ rfl; (with_reducible repeat (first | refine blk_drewN ?_ _ | refine blk_drew ?_ | refine blk_alloc ?_ _)); refine blk_put (cs := #[.int .u64 1, .slice none 0 0, .slice none 0 0]) ?_ 1 _ rfl; (with_reducible repeat (first | refine blk_drewN ?_ _ | refine blk_drew ?_ | refine blk_alloc ?_ _)); refine blk_put (cs := #[.int .u64 0, .slice none 0 0, .slice none 0 0]) ?_ 0 _ rfl; (with_reducible repeat (first | refine blk_drewN ?_ _ | refine blk_drew ?_ | refine blk_alloc ?_ _)); exact BK479.out) Try.underlying29 rfl (by kernel_rfl)) rfl ?_
   exact ⟨_, _, by first | rfl | (simp [errW_none, errW_some] <;> rfl) | (simp [*, errW_none, errW_some] <;> rfl), by (with_reducible repeat (first | apply Kd.R_alloc | apply Kd.R_drewN | apply Kd.R_drew)); exact Kd.R_mono (Kd.R_far (p := ⟨gb479, 2, none⟩) (Kd.R_far (p := ⟨gb479, 1, none⟩) (Kd.R_far (p := ⟨gb479, 0, none⟩) (Kd.R_types HO482.out BK479.out (by decide)) (fun _ hk => hk.2) (.int .u64 1)) (fun _ hk => hk.2) (.slice Ao13 y480.length co13)) (fun _ hk => hk.2) (.slice Ao12 y489.length co12)) (fun _ hk => hk.1.1), by (with_reducible repeat (first | apply Kd.N_alloc | apply Kd.N_drewN | apply Kd.N_drew)); exact Kd.N_mono (Kd.N_far (p := ⟨gb479, 2, none⟩) (Kd.N_far (p := ⟨gb479, 1, none⟩) (Kd.N_far (p := ⟨gb479, 0, none⟩) (Kd.N_mono HO491.out (fun k_ hk => (⟨hk, hk.2.2⟩ : _ ∧ k_ ≠ gb479))) (fun _ hk => hk.2) (.int .u64 1)) (fun _ hk => hk.2) (.slice Ao13 y480.length co13)) (fun _ hk => hk.2) (.slice Ao12 y489.length co12)) (fun _ hk => ⟨hk.1.1, hk.1.2.1⟩), by repeat (first | (with_reducible first | exact HB.out | apply below_alloc | apply pw_below_drewN | apply below_drew1 | refine below_set ?_ GE479.out) | exact HB.out)⟩
 · rw [if_neg c2] at H
   exact absurd H (by simp)
end Go.Proofs.Ytkkfpmgmicfkfaa.X
set_option linter.unusedVariables false
/- What the printed comparisons compute. -/
namespace Go.Proofs.Ytkkfpmgmicfkfaa.X
open Go.RowKit Go.Proofs.YtkkfpmgmicfkfaaW.PrintWords Go.Proofs.YtkkfpmgmicfkfaaW.PrintLast Go.Proofs.YtkkfpmgmicfkfaaW.PrintMore Go.Proofs.Ytkkfpmgmicfkfaa
instance : DecidableEq S40 := fun a b => decidable_of_iff (a.f0 = b.f0 ∧ a.f1 = b.f1) (by cases a; cases b; simp)
theorem drop_at {α : Type} (z : α) (l : List α) (i : Int) (h0 : 0 ≤ i) (h1 : i < l.length) : l.drop i.toNat = l.getD i.toNat z :: l.drop (i + 1).toNat := by
 have h2 : i.toNat < l.length := by omega
 have h3 : (i + 1).toNat = i.toNat + 1 := by omega
 rw [h3, List.drop_eq_getElem_cons h2, List.getD_eq_getElem?_getD, List.getElem?_eq_getElem h2]
 rfl
theorem drop_end {α : Type} (l : List α) (i : Int) (h1 : l.length ≤ i) : l.drop i.toNat = [] := List.drop_eq_nil_of_le (by omega)
theorem wrap_up (i : Int) (n : Nat) (h0 : 0 ≤ i) (h1 : i < n) (h : n ≤ 9223372036854775807) : wrap64 (i + 1) = i + 1 := IntWalk.wrap64_in _ (by omega)
theorem same19_l (k : Nat) (x y : List Int) (hl : x.length = y.length) (hn : x.length ≤ 9223372036854775807) : ∀ i : Int, 0 ≤ i → i ≤ x.length → x.length - i.toNat < k → braidworkref19_Same.l0 k x y i = some (decide (x.drop i.toNat = y.drop i.toNat)) := by
 induction k with
 | zero => intro i _ _ h; omega
 | succ k ih =>
  intro i h0 h1 hk
  unfold braidworkref19_Same.l0
  by_cases hi : i < x.length
  · rw [if_pos hi, if_pos h0, if_pos (by omega), drop_at 0 x i h0 hi, drop_at 0 y i h0 (by omega), wrap_up i x.length h0 hi hn]
    by_cases he : rd x i = rd y i
    · rw [if_pos he, ih (i + 1) (by omega) (by omega) (by omega)]
      have he : x.getD i.toNat 0 = y.getD i.toNat 0 := he
      simp only [he, List.cons.injEq, true_and]
    · rw [if_neg he]
      have he : ¬ x.getD i.toNat 0 = y.getD i.toNat 0 := he
      simp only [List.cons.injEq, he, false_and, decide_false]
  · rw [if_neg hi, drop_end x i (by omega), drop_end y i (by omega)]
    rfl
theorem same19_eq (x y : List Int) (hn : x.length ≤ 9223372036854775807) (k : Nat) (hk : x.length < k) : braidworkref19_Same.f k x y = some (decide (x = y)) := by
 unfold braidworkref19_Same.f
 by_cases hl : x.length = y.length
 · rw [if_pos (by omega), same19_l k x y hl hn 0 (by omega) (by omega) (by simpa using hk)]
   simp
 · rw [if_neg (by omega), decide_eq_false (fun e => hl (by rw [e]))]
theorem eqb_l (k : Nat) (x y : List Bool) (hl : x.length = y.length) (hn : x.length ≤ 9223372036854775807) : ∀ i : Int, 0 ≤ i → i ≤ x.length → x.length - i.toNat < k → slices_Equal_bool_bool.l0 k x y x.length i = some (decide (x.drop i.toNat = y.drop i.toNat)) := by
 induction k with
 | zero => intro i _ _ h; omega
 | succ k ih =>
  intro i h0 h1 hk
  unfold slices_Equal_bool_bool.l0
  by_cases hi : i < x.length
  · rw [if_pos hi, if_pos h0, if_pos hi, if_pos (by omega), drop_at false x i h0 hi, drop_at false y i h0 (by omega), wrap_up i x.length h0 hi hn]
    by_cases he : rdOf false x i = rdOf false y i
    · rw [if_neg (by simp [he]), ih (i + 1) (by omega) (by omega) (by omega)]
      have he : x.getD i.toNat false = y.getD i.toNat false := he
      simp only [he, List.cons.injEq, true_and]
    · rw [if_pos (bne_iff_ne.2 he)]
      have he : ¬ x.getD i.toNat false = y.getD i.toNat false := he
      simp only [List.cons.injEq, he, false_and, decide_false]
  · rw [if_neg hi, drop_end x i (by omega), drop_end y i (by omega)]
    rfl
theorem eqb_eq (x y : List Bool) (hn : x.length ≤ 9223372036854775807) (k : Nat) (hk : x.length < k) : slices_Equal_bool_bool.f k x y = some (decide (x = y)) := by
 unfold slices_Equal_bool_bool.f
 by_cases hl : x.length = y.length
 · rw [if_pos (by omega), eqb_l k x y hl hn 0 (by omega) (by omega) (by simpa using hk)]
   simp
 · rw [if_neg (by omega), decide_eq_false (fun e => hl (by rw [e]))]
theorem edge_ne (a b : S40) : ((!(a.f0 == b.f0) || !(a.f1 == b.f1)) = true) ↔ a ≠ b := by
 cases a; cases b
 simp
 omega
theorem eqe_l (k : Nat) (x y : List S40) (hl : x.length = y.length) (hn : x.length ≤ 9223372036854775807) : ∀ i : Int, 0 ≤ i → i ≤ x.length → x.length - i.toNat < k → api_Edge_85.l0 k x y x.length i = some (decide (x.drop i.toNat = y.drop i.toNat)) := by
 induction k with
 | zero => intro i _ _ h; omega
 | succ k ih =>
  intro i h0 h1 hk
  unfold api_Edge_85.l0
  by_cases hi : i < x.length
  · rw [if_pos hi, if_pos h0, if_pos hi, if_pos (by omega), drop_at z40 x i h0 hi, drop_at z40 y i h0 (by omega), wrap_up i x.length h0 hi hn]
    by_cases he : rd_T40 x i = rd_T40 y i
    · rw [if_neg (by rw [edge_ne]; exact fun h => h he), ih (i + 1) (by omega) (by omega) (by omega)]
      have he : x.getD i.toNat z40 = y.getD i.toNat z40 := he
      simp only [he, List.cons.injEq, true_and]
    · rw [if_pos ((edge_ne _ _).2 he)]
      have he : ¬ x.getD i.toNat z40 = y.getD i.toNat z40 := he
      simp only [List.cons.injEq, he, false_and, decide_false]
  · rw [if_neg hi, drop_end x i (by omega), drop_end y i (by omega)]
    rfl
theorem eqe_eq (x y : List S40) (hn : x.length ≤ 9223372036854775807) (k : Nat) (hk : x.length < k) : api_Edge_85.f k x y = some (decide (x = y)) := by
 unfold api_Edge_85.f
 by_cases hl : x.length = y.length
 · rw [if_pos (by omega), eqe_l k x y hl hn 0 (by omega) (by omega) (by simpa using hk)]
   simp
 · rw [if_neg (by omega), decide_eq_false (fun e => hl (by rw [e]))]
/-! ### a number, an edge: is it there? -/
theorem has_l (k : Nat) (x : List Int) (n : Int) (hn : x.length ≤ 9223372036854775807) : ∀ i : Int, 0 ≤ i → i ≤ x.length → x.length - i.toNat < k → braidworkref19_Has.l0 k x n i = some ((x.drop i.toNat).contains n) := by
 induction k with
 | zero => intro i _ _ h; omega
 | succ k ih =>
  intro i h0 h1 hk
  unfold braidworkref19_Has.l0
  by_cases hi : i < x.length
  · rw [if_pos hi, if_pos h0, drop_at 0 x i h0 hi, wrap_up i x.length h0 hi hn, List.contains_cons]
    by_cases he : rd x i = n
    · rw [if_pos he]
      have he : x.getD i.toNat 0 = n := he
      rw [he]
      simp
    · rw [if_neg he, ih (i + 1) (by omega) (by omega) (by omega)]
      have he : ¬ x.getD i.toNat 0 = n := he
      rw [beq_eq_false_iff_ne.2 (Ne.symm he), Bool.false_or]
  · rw [if_neg hi, drop_end x i (by omega)]
    rfl
theorem has_eq (x : List Int) (n : Int) (hn : x.length ≤ 9223372036854775807) (k : Nat) (hk : x.length < k) : braidworkref19_Has.f k x n = some (x.contains n) := by
 unfold braidworkref19_Has.f
 rw [has_l k x n hn 0 (by omega) (by omega) (by simpa using hk)]
 simp
theorem index_l (k : Nat) (x : List Int) (n : Int) (hn : x.length ≤ 9223372036854775807) : ∀ i : Int, 0 ≤ i → i ≤ x.length → x.length - i.toNat < k → ∃ j : Int, slices_Index_int_int.l0 k x n x.length i = some j ∧ decide (j ≥ 0) = (x.drop i.toNat).contains n := by
 induction k with
 | zero => intro i _ _ h; omega
 | succ k ih =>
  intro i h0 h1 hk
  unfold slices_Index_int_int.l0
  by_cases hi : i < x.length
  · rw [if_pos hi, if_pos h0, if_pos hi, drop_at 0 x i h0 hi, wrap_up i x.length h0 hi hn, List.contains_cons]
    by_cases he : n = rd x i
    · rw [if_pos he]
      have he : n = x.getD i.toNat 0 := he
      exact ⟨i, rfl, by rw [← he]; simp; exact h0⟩
    · rw [if_neg he]
      have he : ¬ n = x.getD i.toNat 0 := he
      rw [beq_eq_false_iff_ne.2 he, Bool.false_or]
      exact ih (i + 1) (by omega) (by omega) (by omega)
  · rw [if_neg hi, drop_end x i (by omega)]
    exact ⟨-1, rfl, rfl⟩
theorem contains_eq (x : List Int) (n : Int) (hn : x.length ≤ 9223372036854775807) (k : Nat) (hk : x.length < k) : slices_Contains_int_int.f k x n = some (x.contains n) := by
 unfold slices_Contains_int_int.f slices_Index_int_int.f
 obtain ⟨j, h1, h2⟩ := index_l k x n hn 0 (by omega) (by omega) (by simpa using hk)
 rw [h1, Option.bind_some, h2]
 simp
theorem indexe_l (k : Nat) (x : List S40) (a b : Int) (hn : x.length ≤ 9223372036854775807) : ∀ i : Int, 0 ≤ i → i ≤ x.length → x.length - i.toNat < k → ∃ j : Int, api_Edge_133.l0 k x x.length i a b = some j ∧ decide (j ≥ 0) = decide ((⟨a, b⟩ : S40) ∈ x.drop i.toNat) := by
 induction k with
 | zero => intro i _ _ h; omega
 | succ k ih =>
  intro i h0 h1 hk
  unfold api_Edge_133.l0
  by_cases hi : i < x.length
  · rw [if_pos hi, if_pos h0, if_pos hi, drop_at z40 x i h0 hi, wrap_up i x.length h0 hi hn]
    by_cases he : (⟨a, b⟩ : S40) = rd_T40 x i
    · rw [if_pos (by rw [← he]; simp)]
      have he : (⟨a, b⟩ : S40) = x.getD i.toNat z40 := he
      exact ⟨i, rfl, by rw [← he]; simp; exact h0⟩
    · rw [if_neg (by
       intro h
       apply he
       simp at h
       generalize rd_T40 x i = y at h
       cases y
       simp_all)]
      have he : ¬ (⟨a, b⟩ : S40) = x.getD i.toNat z40 := he
      obtain ⟨j, h1, h2⟩ := ih (i + 1) (by omega) (by omega) (by omega)
      exact ⟨j, h1, by rw [h2]; simp only [List.mem_cons, he, false_or]⟩
  · rw [if_neg hi, drop_end x i (by omega)]
    exact ⟨-1, rfl, by simp⟩
theorem containse_eq (x : List S40) (a b : Int) (hn : x.length ≤ 9223372036854775807) (k : Nat) (hk : x.length < k) : api_Edge_97.f k x a b = some (decide ((⟨a, b⟩ : S40) ∈ x)) := by
 unfold api_Edge_97.f api_Edge_133.f
 obtain ⟨j, h1, h2⟩ := indexe_l k x a b hn 0 (by omega) (by omega) (by simpa using hk)
 rw [h1, Option.bind_some, h2]
 simp
end Go.Proofs.Ytkkfpmgmicfkfaa.X
/- Printed by a program of this session's own (wip/tools/xprint.py) out of the translation: functions as plain Lean, and their walks. -/
namespace Go.Proofs.Ytkkfpmgmicfkfaa.X
open Go.RowKit Go.Proofs.YtkkfpmgmicfkfaaW.PrintWords Go.Proofs.YtkkfpmgmicfkfaaW.PrintLast Go.Proofs.YtkkfpmgmicfkfaaW.PrintMore
attribute [local go_sem] max2_int min2_int max_two min_two max_three min_three max_four min_four   -- for this text's walks alone
set_option linter.unusedVariables false
set_option linter.unusedSimpArgs false
/-! ### cmp_isNaN_int: function 150 -/
def cmp_isNaN_int.f (a0 : Int) : Option (Bool) := some (a0 != a0)
set_option maxHeartbeats 8000000 in
set_option maxRecDepth 100000 in
theorem cmp_isNaN_int.calls (a0 : Int) (r : Bool) (w : World) (h : cmp_isNaN_int.f a0 = some r) :
 Calls Try.prog 150 #[.int .i64 a0] w fun e w' => e = .returned (.bool r) ∧ Drawn0 w w' := by
 have H : (some (a0 != a0)) = some r := h
 clear h
 obtain rfl := Option.some.inj H
 go_enter Try.func150, Try.ntmps150
 go_wp2
 go_ret
 exact ⟨by first | rfl | (simp; done) | (simp [*]; done), by repeat (first | exact Drawn0.refl _ | apply Drawn0.step)⟩
/-! ### cmp_Less_int: function 145 -/
def cmp_Less_int.f (a0 : Int) (a1 : Int) : Option (Bool) := (cmp_isNaN_int.f a0).bind fun t101 => (if t101 = true then ((cmp_isNaN_int.f a1).bind fun t102 => (if t102 = true then (some (decide (a0 < a1))) else (some true))) else (some (decide (a0 < a1))))
/-! ### slices_insertionSortOrdered_int: function 139 -/
mutual
def slices_insertionSortOrdered_int.l0 : Nat → List Int → Int → Int → Int → Option (List Int)
 | 0, _, _, _, _ => none
 | k + 1, x0, x1, x2, x6 => if x6 < x2 then (slices_insertionSortOrdered_int.l1 k x0 x1 x2 x6 x6) else (some x0)
def slices_insertionSortOrdered_int.l1 : Nat → List Int → Int → Int → Int → Int → Option (List Int)
 | 0, _, _, _, _, _ => none
 | k + 1, x0, x1, x2, x6, x7 => if x7 > x1 then (if 0 ≤ x7 then (if x7 < (x0.length : Int) then (if 0 ≤ (wrap64 (x7 - 1)) then (if (wrap64 (x7 - 1)) < (x0.length : Int) then ((cmp_Less_int.f (rd x0 x7) (rd x0 (wrap64 (x7 - 1)))).bind fun t105 => (if t105 = true then (slices_insertionSortOrdered_int.l1 k ((x0.set (x7 : Int).toNat (rd x0 (wrap64 (x7 - 1)))).set ((wrap64 (x7 - 1)) : Int).toNat (rd x0 x7)) x1 x2 x6 (wrap64 (x7 - 1))) else (slices_insertionSortOrdered_int.l0 k x0 x1 x2 (wrap64 (x6 + 1))))) else (none)) else (none)) else (none)) else (none)) else (slices_insertionSortOrdered_int.l0 k x0 x1 x2 (wrap64 (x6 + 1)))
end
def slices_insertionSortOrdered_int.f (k : Nat) (l0 : List Int) (a1 : Int) (a2 : Int) : Option (List Int) := slices_insertionSortOrdered_int.l0 k l0 a1 a2 (wrap64 (a1 + 1))
theorem slices_insertionSortOrdered_int.mono_l : ∀ k, (∀ y0 y1 y2 y3, LeO (slices_insertionSortOrdered_int.l0 k y0 y1 y2 y3) (slices_insertionSortOrdered_int.l0 (k + 1) y0 y1 y2 y3)) ∧ (∀ y0 y1 y2 y3 y4, LeO (slices_insertionSortOrdered_int.l1 k y0 y1 y2 y3 y4) (slices_insertionSortOrdered_int.l1 (k + 1) y0 y1 y2 y3 y4))
 | 0 => ⟨fun _ _ _ _ r h => by simp [slices_insertionSortOrdered_int.l0] at h, fun _ _ _ _ _ r h => by simp [slices_insertionSortOrdered_int.l1] at h⟩
 | k + 1 => by
  obtain ⟨ih0, ih1⟩ := slices_insertionSortOrdered_int.mono_l k
  refine ⟨?_, ?_⟩
  · intro y0 y1 y2 y3
    unfold slices_insertionSortOrdered_int.l0
    repeat' first
    | (with_reducible exact ih0 _ _ _ _)
    | (with_reducible exact ih1 _ _ _ _ _)
    | (with_reducible exact LeO.refl _)
    | (with_reducible exact LeO.none _)
    | (with_reducible refine LeO.ite ?_ ?_)
    | (with_reducible refine LeO.bind ?_ (fun _ => ?_))
    | exact ih0 _ _ _ _
    | exact ih1 _ _ _ _ _
    | exact LeO.none _
    | refine LeO.ite ?_ ?_
    | refine LeO.bind ?_ (fun _ => ?_)
  · intro y0 y1 y2 y3 y4
    unfold slices_insertionSortOrdered_int.l1
    repeat' first
    | (with_reducible exact ih0 _ _ _ _)
    | (with_reducible exact ih1 _ _ _ _ _)
    | (with_reducible exact LeO.refl _)
    | (with_reducible exact LeO.none _)
    | (with_reducible refine LeO.ite ?_ ?_)
    | (with_reducible refine LeO.bind ?_ (fun _ => ?_))
    | exact ih0 _ _ _ _
    | exact ih1 _ _ _ _ _
    | exact LeO.none _
    | refine LeO.ite ?_ ?_
    | refine LeO.bind ?_ (fun _ => ?_)
theorem slices_insertionSortOrdered_int.mono : ∀ a0 a1 a2 k, LeO (slices_insertionSortOrdered_int.f k a0 a1 a2) (slices_insertionSortOrdered_int.f (k + 1) a0 a1 a2) := by
 intro a0 a1 a2 k
 obtain ⟨ih0, ih1⟩ := slices_insertionSortOrdered_int.mono_l k
 unfold slices_insertionSortOrdered_int.f
 repeat' first
  | (with_reducible exact ih0 _ _ _ _)
  | (with_reducible exact ih1 _ _ _ _ _)
  | (with_reducible exact LeO.refl _)
  | (with_reducible exact LeO.none _)
  | (with_reducible refine LeO.ite ?_ ?_)
  | (with_reducible refine LeO.bind ?_ (fun _ => ?_))
  | exact ih0 _ _ _ _
  | exact ih1 _ _ _ _ _
  | exact LeO.none _
  | refine LeO.ite ?_ ?_
  | refine LeO.bind ?_ (fun _ => ?_)
end Go.Proofs.Ytkkfpmgmicfkfaa.X
/- Printed by a program of this session's own (wip/tools/xprint.py) out of the translation: functions as plain Lean, and their walks. -/
namespace Go.Proofs.Ytkkfpmgmicfkfaa.X
open Go.RowKit Go.Proofs.YtkkfpmgmicfkfaaW.PrintWords Go.Proofs.YtkkfpmgmicfkfaaW.PrintLast Go.Proofs.YtkkfpmgmicfkfaaW.PrintMore
attribute [local go_sem] max2_int min2_int max_two min_two max_three min_three max_four min_four   -- for this text's walks alone
set_option linter.unusedVariables false
set_option linter.unusedSimpArgs false
/-! ### cmp_Or_int: function 131 -/
def cmp_Or_int.l0 : Nat → Int → List Int → Int → Int → Option (Int)
 | 0, _, _, _, _ => none
 | k + 1, x3, x6, x7, x8 => if x8 < x7 then (if 0 ≤ x8 then (if x8 < (x6.length : Int) then (if (rd x6 x8) = x3 then (cmp_Or_int.l0 k x3 x6 x7 (wrap64 (x8 + 1))) else (some (rd x6 x8))) else (none)) else (none)) else (some x3)
def cmp_Or_int.f (k : Nat) (l0 : List Int) : Option (Int) := cmp_Or_int.l0 k 0 l0 (l0.length : Int) 0
theorem cmp_Or_int.mono_l : ∀ k, (∀ y0 y1 y2 y3, LeO (cmp_Or_int.l0 k y0 y1 y2 y3) (cmp_Or_int.l0 (k + 1) y0 y1 y2 y3))
 | 0 => fun _ _ _ _ r h => by simp [cmp_Or_int.l0] at h
 | k + 1 => by
  have ih0 := cmp_Or_int.mono_l k
  · intro y0 y1 y2 y3
    unfold cmp_Or_int.l0
    repeat' first
    | (with_reducible exact ih0 _ _ _ _)
    | (with_reducible exact LeO.refl _)
    | (with_reducible exact LeO.none _)
    | (with_reducible refine LeO.ite ?_ ?_)
    | (with_reducible refine LeO.bind ?_ (fun _ => ?_))
    | exact ih0 _ _ _ _
    | exact LeO.none _
    | refine LeO.ite ?_ ?_
    | refine LeO.bind ?_ (fun _ => ?_)
theorem cmp_Or_int.mono : ∀ a0 k, LeO (cmp_Or_int.f k a0) (cmp_Or_int.f (k + 1) a0) := by
 intro a0 k
 have ih0 := cmp_Or_int.mono_l k
 unfold cmp_Or_int.f
 repeat' first
  | (with_reducible exact ih0 _ _ _ _)
  | (with_reducible exact LeO.refl _)
  | (with_reducible exact LeO.none _)
  | (with_reducible refine LeO.ite ?_ ?_)
  | (with_reducible refine LeO.bind ?_ (fun _ => ?_))
  | exact ih0 _ _ _ _
  | exact LeO.none _
  | refine LeO.ite ?_ ?_
  | refine LeO.bind ?_ (fun _ => ?_)
set_option maxHeartbeats 8000000 in
set_option maxRecDepth 100000 in
theorem cmp_Or_int.calls (k : Nat) (A0 : Option Addr) (c0 : Nat) (l0 : List Int) (r : Int) (w : World) (hr0 : Kd.C (Kd.int .i64) w A0 l0.length l0) (hc0 : l0.length ≤ c0) (h : cmp_Or_int.f k l0 = some r) :
 Calls Try.prog 131 #[.slice A0 l0.length c0] w fun e w' => e = .returned (.int .i64 r) ∧ Drawn0 w w' := by
 have HR0 := Aside0.mk hr0
 have HC0 := Aside0.mk hc0
 clear hr0 hc0
 have H : (cmp_Or_int.l0 k 0 l0 (l0.length : Int) 0) = some r := h
 clear h
 have H' := Aside0.mk H
 clear H
 go_enter Try.func131, Try.ntmps131
 go_wp2
 go_loopg [8] k (fun kq v8 w' => ∃ (x8_1 : Int), v8 = .int .i64 x8_1 ∧ Aside0 (cmp_Or_int.l0 kq 0 l0 (l0.length : Int) x8_1 = some r) ∧ Aside0 (kq ≤ k) ∧ Drawn0 w w')
 case atStart => exact ⟨(0), (by first | rfl | (simp; done) | (simp [*]; done)), H', ⟨Nat.le_refl _⟩, by repeat (first | exact Drawn0.refl _ | apply Drawn0.step)⟩
 case round =>
  clear H'
  try clear c1
  obtain ⟨x8_1, rfl, HA, HK1, ⟨m1, rfl⟩⟩ := hrel
  cases gk with
  | zero => exact absurd HA.out (by simp [cmp_Or_int.l0])
  | succ k1 =>
   have H := HA.out
   clear HA
   simp only [cmp_Or_int.l0] at H
   by_cases c2 : x8_1 < (l0.length : Int)
   · rw [if_pos c2] at H
     have c2b0 : decide (x8_1 < (l0.length : Int)) = true := decide_eq_true c2
     clear c2
     by_cases c3 : 0 ≤ x8_1
     · rw [if_pos c3] at H
       have c3b0 : decide (0 ≤ x8_1) = true := decide_eq_true c3
       clear c3
       by_cases c4 : x8_1 < (l0.length : Int)
       · rw [if_pos c4] at H
         have c4b0 : decide (x8_1 < (l0.length : Int)) = true := decide_eq_true c4
         clear c4
         by_cases c5 : (rd l0 x8_1) = 0
         · rw [if_pos c5] at H
           have c5b0 : ((rd l0 x8_1) == 0) = true := beq_iff_eq.mpr c5
           have c5b1 : ((rd l0 x8_1) != 0) = false := bne_eq_false_iff_eq.mpr c5
           clear c5
           have H' := Aside0.mk H
           clear H
           have p400 : 0 ≤ (x8_1 : Int) := of_decide_eq_true (by first | (with_reducible assumption) | assumption)
           have q400 : x8_1 < (l0.length : Int) := of_decide_eq_true (by first | (with_reducible assumption) | assumption)
           obtain ⟨ad400, e400, hx400_0⟩ := Kd.at_int HR0.out x8_1 p400 q400
           cases e400
           replace p400 := eq_true p400
           replace q400 := eq_true q400
           go_wp2
           go_roundg k1
           case measure => have := HK1.out; omega
           case rel => exact ⟨(wrap64 (x8_1 + 1)), (by first | rfl | (simp; done) | (simp [*]; done)), H', ⟨by have := HK1.out; omega⟩, by repeat (first | exact Drawn0.refl _ | apply Drawn0.step)⟩
         · rw [if_neg c5] at H
           have c5b0 : ((rd l0 x8_1) == 0) = false := beq_eq_false_iff_ne.mpr c5
           have c5b1 : ((rd l0 x8_1) != 0) = true := bne_iff_ne.mpr c5
           obtain rfl := Option.some.inj H
           have p400 : 0 ≤ (x8_1 : Int) := of_decide_eq_true (by first | (with_reducible assumption) | assumption)
           have q400 : x8_1 < (l0.length : Int) := of_decide_eq_true (by first | (with_reducible assumption) | assumption)
           obtain ⟨ad400, e400, hx400_0⟩ := Kd.at_int HR0.out x8_1 p400 q400
           cases e400
           replace p400 := eq_true p400
           replace q400 := eq_true q400
           go_wp2
           go_ret
           exact ⟨by first | rfl | (simp; done) | (simp [*]; done), by repeat (first | exact Drawn0.refl _ | apply Drawn0.step)⟩
       · rw [if_neg c4] at H
         exact absurd H (by simp)
     · rw [if_neg c3] at H
       exact absurd H (by simp)
   · rw [if_neg c2] at H
     have c2b0 : decide (x8_1 < (l0.length : Int)) = false := decide_eq_false c2
     clear c2
     obtain rfl := Option.some.inj H
     go_wp2
     go_ret
     exact ⟨by first | rfl | (simp; done) | (simp [*]; done), by repeat (first | exact Drawn0.refl _ | apply Drawn0.step)⟩
/-! ### cmp_Compare_int: function 132 -/
def cmp_Compare_int.f (a0 : Int) (a1 : Int) : Option (Int) := (cmp_isNaN_int.f a0).bind fun t401 => ((cmp_isNaN_int.f a1).bind fun t402 => (if t401 = true then (if t402 = true then (some 0) else (some (-1))) else (if t402 = true then (some 1) else (if a0 < a1 then (some (-1)) else (if a0 > a1 then (some 1) else (some 0))))))
set_option maxHeartbeats 8000000 in
set_option maxRecDepth 100000 in
theorem cmp_Compare_int.calls (a0 : Int) (a1 : Int) (r : Int) (w : World) (h : cmp_Compare_int.f a0 a1 = some r) :
 Calls Try.prog 132 #[.int .i64 a0, .int .i64 a1] w fun e w' => e = .returned (.int .i64 r) ∧ Drawn0 w w' := by
 have H : ((cmp_isNaN_int.f a0).bind fun t401 => ((cmp_isNaN_int.f a1).bind fun t402 => (if t401 = true then (if t402 = true then (some 0) else (some (-1))) else (if t402 = true then (some 1) else (if a0 < a1 then (some (-1)) else (if a0 > a1 then (some 1) else (some 0))))))) = some r := h
 clear h
 replace H := Option.bind_eq_some_iff.mp H
 obtain ⟨t401, A30, H⟩ := H
 replace H : ((cmp_isNaN_int.f a1).bind fun t402 => (if t401 = true then (if t402 = true then (some 0) else (some (-1))) else (if t402 = true then (some 1) else (if a0 < a1 then (some (-1)) else (if a0 > a1 then (some 1) else (some 0)))))) = some r := H
 have A3 := Aside0.mk A30
 clear A30
 replace H := Option.bind_eq_some_iff.mp H
 obtain ⟨t402, A40, H⟩ := H
 replace H : (if t401 = true then (if t402 = true then (some 0) else (some (-1))) else (if t402 = true then (some 1) else (if a0 < a1 then (some (-1)) else (if a0 > a1 then (some 1) else (some 0))))) = some r := H
 have A4 := Aside0.mk A40
 clear A40
 by_cases c5 : t401 = true
 · subst c5
   have H1 : (if t402 = true then (some 0) else (some (-1))) = some r := by rw [if_pos rfl] at H; exact H
   clear H
   have H := H1
   clear H1
   by_cases c6 : t402 = true
   · subst c6
     have H1 : (some 0) = some r := by rw [if_pos rfl] at H; exact H
     clear H
     have H := H1
     clear H1
     obtain rfl := Option.some.inj H
     go_enter Try.func132, Try.ntmps132
     go_wp2_with (first | ((with_reducible refine gate_callee (f := 150) rfl ?_); refine goesL_ (some 8) rfl rfl Try.func150 (by kernel_rfl) rfl #[.int .i64 a0] rfl (by (try simp only [List.map_toArray, List.map_cons, List.map_nil]); first | done | rfl | (simp only [List.length_drop, List.length_take]; rfl)) ?_; (with_reducible refine (cmp_isNaN_int.calls a0 true _ A3.out).mono ?_); rintro e w' ⟨rfl, ⟨nd, rfl⟩⟩; refine ⟨_, rfl, ?_⟩) | ((with_reducible refine gate_callee (f := 150) rfl ?_); refine goesL_ (some 10) rfl rfl Try.func150 (by kernel_rfl) rfl #[.int .i64 a1] rfl (by (try simp only [List.map_toArray, List.map_cons, List.map_nil]); first | done | rfl | (simp only [List.length_drop, List.length_take]; rfl)) ?_; (with_reducible refine (cmp_isNaN_int.calls a1 true _ A4.out).mono ?_); rintro e w' ⟨rfl, ⟨nd, rfl⟩⟩; refine ⟨_, rfl, ?_⟩))
     go_ret
     exact ⟨by first | rfl | (simp; done) | (simp [*]; done), by repeat (first | exact Drawn0.refl _ | apply Drawn0.step)⟩
   · replace c6 := Bool.eq_false_iff.mpr c6
     subst c6
     have H1 : (some (-1)) = some r := by rw [if_neg (show ¬ (false = true) by decide)] at H; exact H
     clear H
     have H := H1
     clear H1
     obtain rfl := Option.some.inj H
     go_enter Try.func132, Try.ntmps132
     go_wp2_with (first | ((with_reducible refine gate_callee (f := 150) rfl ?_); refine goesL_ (some 8) rfl rfl Try.func150 (by kernel_rfl) rfl #[.int .i64 a0] rfl (by (try simp only [List.map_toArray, List.map_cons, List.map_nil]); first | done | rfl | (simp only [List.length_drop, List.length_take]; rfl)) ?_; (with_reducible refine (cmp_isNaN_int.calls a0 true _ A3.out).mono ?_); rintro e w' ⟨rfl, ⟨nd, rfl⟩⟩; refine ⟨_, rfl, ?_⟩) | ((with_reducible refine gate_callee (f := 150) rfl ?_); refine goesL_ (some 10) rfl rfl Try.func150 (by kernel_rfl) rfl #[.int .i64 a1] rfl (by (try simp only [List.map_toArray, List.map_cons, List.map_nil]); first | done | rfl | (simp only [List.length_drop, List.length_take]; rfl)) ?_; (with_reducible refine (cmp_isNaN_int.calls a1 false _ A4.out).mono ?_); rintro e w' ⟨rfl, ⟨nd, rfl⟩⟩; refine ⟨_, rfl, ?_⟩))
     go_ret
     exact ⟨by first | rfl | (simp; done) | (simp [*]; done), by repeat (first | exact Drawn0.refl _ | apply Drawn0.step)⟩
 · replace c5 := Bool.eq_false_iff.mpr c5
   subst c5
   have H1 : (if t402 = true then (some 1) else (if a0 < a1 then (some (-1)) else (if a0 > a1 then (some 1) else (some 0)))) = some r := by rw [if_neg (show ¬ (false = true) by decide)] at H; exact H
   clear H
   have H := H1
   clear H1
   by_cases c7 : t402 = true
   · subst c7
     have H1 : (some 1) = some r := by rw [if_pos rfl] at H; exact H
     clear H
     have H := H1
     clear H1
     obtain rfl := Option.some.inj H
     go_enter Try.func132, Try.ntmps132
     go_wp2_with (first | ((with_reducible refine gate_callee (f := 150) rfl ?_); refine goesL_ (some 8) rfl rfl Try.func150 (by kernel_rfl) rfl #[.int .i64 a0] rfl (by (try simp only [List.map_toArray, List.map_cons, List.map_nil]); first | done | rfl | (simp only [List.length_drop, List.length_take]; rfl)) ?_; (with_reducible refine (cmp_isNaN_int.calls a0 false _ A3.out).mono ?_); rintro e w' ⟨rfl, ⟨nd, rfl⟩⟩; refine ⟨_, rfl, ?_⟩) | ((with_reducible refine gate_callee (f := 150) rfl ?_); refine goesL_ (some 10) rfl rfl Try.func150 (by kernel_rfl) rfl #[.int .i64 a1] rfl (by (try simp only [List.map_toArray, List.map_cons, List.map_nil]); first | done | rfl | (simp only [List.length_drop, List.length_take]; rfl)) ?_; (with_reducible refine (cmp_isNaN_int.calls a1 true _ A4.out).mono ?_); rintro e w' ⟨rfl, ⟨nd, rfl⟩⟩; refine ⟨_, rfl, ?_⟩))
     go_ret
     exact ⟨by first | rfl | (simp; done) | (simp [*]; done), by repeat (first | exact Drawn0.refl _ | apply Drawn0.step)⟩
   · replace c7 := Bool.eq_false_iff.mpr c7
     subst c7
     have H1 : (if a0 < a1 then (some (-1)) else (if a0 > a1 then (some 1) else (some 0))) = some r := by rw [if_neg (show ¬ (false = true) by decide)] at H; exact H
     clear H
     have H := H1
     clear H1
     by_cases c8 : a0 < a1
     · rw [if_pos c8] at H
       have c8b0 : decide (a0 < a1) = true := decide_eq_true c8
       clear c8
       obtain rfl := Option.some.inj H
       go_enter Try.func132, Try.ntmps132
       go_wp2_with (first | ((with_reducible refine gate_callee (f := 150) rfl ?_); refine goesL_ (some 8) rfl rfl Try.func150 (by kernel_rfl) rfl #[.int .i64 a0] rfl (by (try simp only [List.map_toArray, List.map_cons, List.map_nil]); first | done | rfl | (simp only [List.length_drop, List.length_take]; rfl)) ?_; (with_reducible refine (cmp_isNaN_int.calls a0 false _ A3.out).mono ?_); rintro e w' ⟨rfl, ⟨nd, rfl⟩⟩; refine ⟨_, rfl, ?_⟩) | ((with_reducible refine gate_callee (f := 150) rfl ?_); refine goesL_ (some 10) rfl rfl Try.func150 (by kernel_rfl) rfl #[.int .i64 a1] rfl (by (try simp only [List.map_toArray, List.map_cons, List.map_nil]); first | done | rfl | (simp only [List.length_drop, List.length_take]; rfl)) ?_; (with_reducible refine (cmp_isNaN_int.calls a1 false _ A4.out).mono ?_); rintro e w' ⟨rfl, ⟨nd, rfl⟩⟩; refine ⟨_, rfl, ?_⟩))
       go_ret
       exact ⟨by first | rfl | (simp; done) | (simp [*]; done), by repeat (first | exact Drawn0.refl _ | apply Drawn0.step)⟩
     · rw [if_neg c8] at H
       have c8b0 : decide (a0 < a1) = false := decide_eq_false c8
       clear c8
       by_cases c9 : a0 > a1
       · rw [if_pos c9] at H
         have c9b0 : decide (a1 < a0) = true := decide_eq_true c9
         clear c9
         obtain rfl := Option.some.inj H
         go_enter Try.func132, Try.ntmps132
         go_wp2_with (first | ((with_reducible refine gate_callee (f := 150) rfl ?_); refine goesL_ (some 8) rfl rfl Try.func150 (by kernel_rfl) rfl #[.int .i64 a0] rfl (by (try simp only [List.map_toArray, List.map_cons, List.map_nil]); first | done | rfl | (simp only [List.length_drop, List.length_take]; rfl)) ?_; (with_reducible refine (cmp_isNaN_int.calls a0 false _ A3.out).mono ?_); rintro e w' ⟨rfl, ⟨nd, rfl⟩⟩; refine ⟨_, rfl, ?_⟩) | ((with_reducible refine gate_callee (f := 150) rfl ?_); refine goesL_ (some 10) rfl rfl Try.func150 (by kernel_rfl) rfl #[.int .i64 a1] rfl (by (try simp only [List.map_toArray, List.map_cons, List.map_nil]); first | done | rfl | (simp only [List.length_drop, List.length_take]; rfl)) ?_; (with_reducible refine (cmp_isNaN_int.calls a1 false _ A4.out).mono ?_); rintro e w' ⟨rfl, ⟨nd, rfl⟩⟩; refine ⟨_, rfl, ?_⟩))
         go_ret
         exact ⟨by first | rfl | (simp; done) | (simp [*]; done), by repeat (first | exact Drawn0.refl _ | apply Drawn0.step)⟩
       · rw [if_neg c9] at H
         have c9b0 : decide (a1 < a0) = false := decide_eq_false c9
         clear c9
         obtain rfl := Option.some.inj H
         go_enter Try.func132, Try.ntmps132
         go_wp2_with (first | ((with_reducible refine gate_callee (f := 150) rfl ?_); refine goesL_ (some 8) rfl rfl Try.func150 (by kernel_rfl) rfl #[.int .i64 a0] rfl (by (try simp only [List.map_toArray, List.map_cons, List.map_nil]); first | done | rfl | (simp only [List.length_drop, List.length_take]; rfl)) ?_; (with_reducible refine (cmp_isNaN_int.calls a0 false _ A3.out).mono ?_); rintro e w' ⟨rfl, ⟨nd, rfl⟩⟩; refine ⟨_, rfl, ?_⟩) | ((with_reducible refine gate_callee (f := 150) rfl ?_); refine goesL_ (some 10) rfl rfl Try.func150 (by kernel_rfl) rfl #[.int .i64 a1] rfl (by (try simp only [List.map_toArray, List.map_cons, List.map_nil]); first | done | rfl | (simp only [List.length_drop, List.length_take]; rfl)) ?_; (with_reducible refine (cmp_isNaN_int.calls a1 false _ A4.out).mono ?_); rintro e w' ⟨rfl, ⟨nd, rfl⟩⟩; refine ⟨_, rfl, ?_⟩))
         go_ret
         exact ⟨by first | rfl | (simp; done) | (simp [*]; done), by repeat (first | exact Drawn0.refl _ | apply Drawn0.step)⟩
/-! ### topo_order: function 92 -/
def topo_order.f (k : Nat) (a0_0 : Int) (a0_1 : Int) (a1_0 : Int) (a1_1 : Int) : Option (Int) := (cmp_Compare_int.f a0_0 a1_0).bind fun t405 => ((cmp_Compare_int.f a0_1 a1_1).bind fun t406 => ((cmp_Or_int.f k (([t405, t406] : List Int))).bind fun t410 => (some t410)))
theorem topo_order.mono : ∀ a0 a1 a2 a3 k, LeO (topo_order.f k a0 a1 a2 a3) (topo_order.f (k + 1) a0 a1 a2 a3) := by
 intro a0 a1 a2 a3 k
 unfold topo_order.f
 repeat' first
  | (with_reducible exact cmp_Or_int.mono _ _)
  | (with_reducible exact LeO.refl _)
  | (with_reducible exact LeO.none _)
  | (with_reducible refine LeO.ite ?_ ?_)
  | (with_reducible refine LeO.bind ?_ (fun _ => ?_))
  | exact cmp_Or_int.mono _ _
  | exact LeO.none _
  | refine LeO.ite ?_ ?_
  | refine LeO.bind ?_ (fun _ => ?_)
def topo_order.T1 : Bool × List (List Nat × List Nat) := (true, [([], []), ([0], [0]), ([], []), ([2], [2]), ([1, 3], [1, 3]), ([], []), ([5], [5]), ([], []), ([7], [7]), ([6, 8, 4], [6, 8]), ([4, 9], [4, 9]), ([10, 9], [10]), ([11, 11, 0, 1, 2, 3, 4, 5, 6, 7, 8, 9, 10, 11], [11])])
def topo_order.B1 : List Nat := [0, 1, 0, 4, 15, 0, 32, 0, 128, 511, 1023, 2047, 4095]
theorem topo_order.tab1 : rtab .any (opsOf Try.f92 1) = topo_order.T1 := by kernel_rfl
theorem topo_order.bits1 : waitsOk topo_order.T1.2 topo_order.B1 = true := by kernel_rfl
set_option maxHeartbeats 8000000 in
set_option maxRecDepth 100000 in
theorem topo_order.calls (k : Nat) (a0_0 : Int) (a0_1 : Int) (a1_0 : Int) (a1_1 : Int) (r : Int) (w : World) (h : topo_order.f k a0_0 a0_1 a1_0 a1_1 = some r) :
 Calls Try.prog 92 #[.agg #[.int .i64 a0_0, .int .i64 a0_1], .agg #[.int .i64 a1_0, .int .i64 a1_1]] w fun e w' => e = .returned (.int .i64 r) ∧ Below w.heap.size w w' := by
 have hu40 := Try.underlying40
 have HB := Aside0.mk (Below.refl w.heap.size w)
 have H : ((cmp_Compare_int.f a0_0 a1_0).bind fun t405 => ((cmp_Compare_int.f a0_1 a1_1).bind fun t406 => ((cmp_Or_int.f k (([t405, t406] : List Int))).bind fun t410 => (some t410)))) = some r := h
 clear h
 replace H := Option.bind_eq_some_iff.mp H
 obtain ⟨t405, A30, H⟩ := H
 replace H : ((cmp_Compare_int.f a0_1 a1_1).bind fun t406 => ((cmp_Or_int.f k (([t405, t406] : List Int))).bind fun t410 => (some t410))) = some r := H
 have A3 := Aside0.mk A30
 clear A30
 replace H := Option.bind_eq_some_iff.mp H
 obtain ⟨t406, A40, H⟩ := H
 replace H : ((cmp_Or_int.f k (([t405, t406] : List Int))).bind fun t410 => (some t410)) = some r := H
 have A4 := Aside0.mk A40
 clear A40
 obtain ⟨y407, hy407⟩ : ∃ y_ : List Int, y_ = (([t405, t406] : List Int)) := ⟨_, rfl⟩
 replace H : ((cmp_Or_int.f k y407).bind fun t410 => (some t410)) = some r := by first | (rw [hy407]; with_reducible exact H) | (have H2_ := (Option.bind_some _ _).symm.trans H; rw [hy407]; with_reducible exact H2_) | (have H2_ := (Option.bind_some _ _).symm.trans H; with_reducible exact H2_) | with_reducible exact H | (rw [hy407]; exact H) | exact H
 have Ny407 := Aside0.mk hy407
 clear hy407
 replace H := Option.bind_eq_some_iff.mp H
 obtain ⟨t410, A50, H⟩ := H
 replace H : (some t410) = some r := H
 have A5 := Aside0.mk A50
 clear A50
 obtain rfl := Option.some.inj H
 go_enter Try.func92, Try.ntmps92
 try go_wp2_with (first | ((with_reducible refine gate_dst (N := 2) rfl ?_); refine box_event ?hg (N := 2) ?hd (cs := #[.int .i64 a0_0, .int .i64 a0_1]) (t := 40) ?hr ?_; (case hd => rfl); (case hg => rfl); (case hr => first | (go_simp; done) | (go_simp; rfl)); intro gb403 hg w6 hbox hb; have n0_ := Aside0.mk (below_step (by repeat (first | (with_reducible first | exact HB.out | apply below_alloc | apply pw_below_drewN | apply below_drew1) | exact HB.out)) hb); have n1_ := Aside0.mk (hbox); have n2_ := Aside0.mk ((by rw [hg]; exact (below_size (by repeat (first | (with_reducible first | exact HB.out | apply below_alloc | apply pw_below_drewN | apply below_drew1) | exact HB.out))) : w.heap.size ≤ gb403)); have n3_ := Aside0.mk ((by rw [hg]; exact (below_size (by repeat (first | (with_reducible first | exact HB.out | apply below_alloc | apply pw_below_drewN | apply below_drew1) | exact HB.out))) : w.heap.size ≤ gb403)); clear HB; have HB := n0_; have BK403 := n1_; have GW403 := n2_; have GE403 := n3_; clear n0_ n1_ n2_ n3_; clear hb hbox hg) | ((with_reducible refine gate_dst (N := 3) rfl ?_); refine box_event ?hg (N := 3) ?hd (cs := #[.int .i64 a1_0, .int .i64 a1_1]) (t := 40) ?hr ?_; (case hd => rfl); (case hg => rfl); (case hr => first | (go_simp; done) | (go_simp; rfl)); intro gb404 hg w7 hbox hb; have n0_ := Aside0.mk (blk_below (g := gb403) (o := .cells #[.int .i64 a0_0, .int .i64 a0_1] 40 (0, 0)) (by (with_reducible repeat (first | refine blk_drewN ?_ _ | refine blk_drew ?_ | refine blk_alloc ?_ _)); exact BK403.out) hb); have n1_ := Aside0.mk (below_step (by repeat (first | (with_reducible first | exact HB.out | apply below_alloc | apply pw_below_drewN | apply below_drew1 | refine below_set ?_ GE403.out) | exact HB.out)) hb); have n2_ := Aside0.mk (hbox); have n3_ := Aside0.mk ((by rw [hg]; exact (below_size (by repeat (first | (with_reducible first | exact HB.out | apply below_alloc | apply pw_below_drewN | apply below_drew1 | refine below_set ?_ GE403.out) | exact HB.out))) : w.heap.size ≤ gb404)); have n4_ := Aside0.mk ((by rw [hg]; exact (below_size (by repeat (first | (with_reducible first | exact HB.out | apply below_alloc | apply pw_below_drewN | apply below_drew1 | refine below_set ?_ GE403.out) | exact HB.out))) : w.heap.size ≤ gb404)); have n5_ := Aside0.mk ((by rw [hg]; exact Nat.ne_of_lt (blk_lt (g := gb403) (o := .cells #[.int .i64 a0_0, .int .i64 a0_1] 40 (0, 0)) (by (with_reducible repeat (first | refine blk_drewN ?_ _ | refine blk_drew ?_ | refine blk_alloc ?_ _)); exact BK403.out)) : gb403 ≠ gb404)); have n6_ := Aside0.mk ((by rw [hg]; exact Nat.ne_of_gt (blk_lt (g := gb403) (o := .cells #[.int .i64 a0_0, .int .i64 a0_1] 40 (0, 0)) (by (with_reducible repeat (first | refine blk_drewN ?_ _ | refine blk_drew ?_ | refine blk_alloc ?_ _)); exact BK403.out)) : gb404 ≠ gb403)); clear BK403; clear HB; have BK403 := n0_; have HB := n1_; have BK404 := n2_; have GW404 := n3_; have GE404 := n4_; have NB403_404 := n5_; have NB404_403 := n6_; clear n0_ n1_ n2_ n3_ n4_ n5_ n6_; clear hb hbox hg))
 have n0_ := Aside0.mk (blk_drew BK403.out)
 have n1_ := Aside0.mk (blk_drew BK404.out)
 have n2_ := Aside0.mk (below_drew1 HB.out)
 clear BK403
 clear BK404
 clear HB
 have BK403 := n0_
 have BK404 := n1_
 have HB := n2_
 clear n0_ n1_ n2_
 refine start_ (n := 13) (S := fun w' => w'.cell? ⟨gb403, 0, none⟩ = some (.int .i64 a0_0) ∧ w'.cell? ⟨gb403, 1, none⟩ = some (.int .i64 a0_1) ∧ w'.cell? ⟨gb404, 0, none⟩ = some (.int .i64 a1_0) ∧ w'.cell? ⟨gb404, 1, none⟩ = some (.int .i64 a1_1)) (ds := []) #[false, false, false, false, false, false, false, false, false, false, false, false, false] (by kernel_rfl) rfl rfl ⟨(blk_cell BK403.out 0).trans rfl, (blk_cell BK403.out 1).trans rfl, (blk_cell BK404.out 0).trans rfl, (blk_cell BK404.out 1).trans rfl⟩ (fun hHeld => ?_); refine with_tabW topo_order.tab1 topo_order.bits1 (fun HT_ HW_ => ?_)
 generalize w7.drew = w8 at BK403 BK404 HB hHeld ⊢
 refine pure_ (i := 0) (N := some 5) (v := ?_) (a' := ?_) #[true, false, false, false, false, false, false, false, false, false, false, false, false] rfl rfl (any_of HT_.out (by kernel_rfl)) (fun _ _ _ h => h) (Or.inl ⟨by rfl, ?_⟩) ?_ ?_
 rotate_left
 · intro w'
   go_simp
   with_reducible rfl
 rotate_left
 · simp only [Act.put, List.setIfInBounds_toArray, List.set_cons_zero, List.set_cons_succ, i64_w, i32_w]
   rfl
 refine pure_ (i := 2) (N := some 7) (v := ?_) (a' := ?_) #[true, false, true, false, false, false, false, false, false, false, false, false, false] rfl rfl (any_of HT_.out (by kernel_rfl)) (fun _ _ _ h => h) (Or.inl ⟨by rfl, ?_⟩) ?_ ?_
 rotate_left
 · intro w'
   go_simp
   with_reducible rfl
 rotate_left
 · simp only [Act.put, List.setIfInBounds_toArray, List.set_cons_zero, List.set_cons_succ, i64_w, i32_w]
   rfl
 refine pure_ (i := 5) (N := some 10) (v := ?_) (a' := ?_) #[true, false, true, false, false, true, false, false, false, false, false, false, false] rfl rfl (any_of HT_.out (by kernel_rfl)) (fun _ _ _ h => h) (Or.inl ⟨by rfl, ?_⟩) ?_ ?_
 rotate_left
 · intro w'
   go_simp
   with_reducible rfl
 rotate_left
 · simp only [Act.put, List.setIfInBounds_toArray, List.set_cons_zero, List.set_cons_succ, i64_w, i32_w]
   rfl
 refine pure_ (i := 7) (N := some 12) (v := ?_) (a' := ?_) #[true, false, true, false, false, true, false, true, false, false, false, false, false] rfl rfl (any_of HT_.out (by kernel_rfl)) (fun _ _ _ h => h) (Or.inl ⟨by rfl, ?_⟩) ?_ ?_
 rotate_left
 · intro w'
   go_simp
   with_reducible rfl
 rotate_left
 · simp only [Act.put, List.setIfInBounds_toArray, List.set_cons_zero, List.set_cons_succ, i64_w, i32_w]
   rfl
 refine take_ (i := 1) (N := some 6) (v := ?_) (a' := ?_) #[true, true, true, false, false, true, false, true, false, false, false, false, false] rfl rfl (take_ofW HT_.out HW_.out (by kernel_rfl)) (fun _ _ _ h => h) (Or.inl ⟨by rfl, ?_⟩) hHeld ?_ ?_
 rotate_left
 · rintro w' ⟨s0, s1, s2, s3⟩
   go_simp
   with_reducible rfl
 rotate_left
 · simp only [Act.put, List.setIfInBounds_toArray, List.set_cons_zero, List.set_cons_succ, i64_w, i32_w]
   rfl
 refine take_ (i := 3) (N := some 8) (v := ?_) (a' := ?_) #[true, true, true, true, false, true, false, true, false, false, false, false, false] rfl rfl (take_ofW HT_.out HW_.out (by kernel_rfl)) (fun _ _ _ h => h) (Or.inl ⟨by rfl, ?_⟩) hHeld ?_ ?_
 rotate_left
 · rintro w' ⟨s0, s1, s2, s3⟩
   go_simp
   with_reducible rfl
 rotate_left
 · simp only [Act.put, List.setIfInBounds_toArray, List.set_cons_zero, List.set_cons_succ, i64_w, i32_w]
   rfl
 refine take_ (i := 6) (N := some 11) (v := ?_) (a' := ?_) #[true, true, true, true, false, true, true, true, false, false, false, false, false] rfl rfl (take_ofW HT_.out HW_.out (by kernel_rfl)) (fun _ _ _ h => h) (Or.inl ⟨by rfl, ?_⟩) hHeld ?_ ?_
 rotate_left
 · rintro w' ⟨s0, s1, s2, s3⟩
   go_simp
   with_reducible rfl
 rotate_left
 · simp only [Act.put, List.setIfInBounds_toArray, List.set_cons_zero, List.set_cons_succ, i64_w, i32_w]
   rfl
 refine take_ (i := 8) (N := some 13) (v := ?_) (a' := ?_) #[true, true, true, true, false, true, true, true, true, false, false, false, false] rfl rfl (take_ofW HT_.out HW_.out (by kernel_rfl)) (fun _ _ _ h => h) (Or.inl ⟨by rfl, ?_⟩) hHeld ?_ ?_
 rotate_left
 · rintro w' ⟨s0, s1, s2, s3⟩
   go_simp
   with_reducible rfl
 rotate_left
 · simp only [Act.put, List.setIfInBounds_toArray, List.set_cons_zero, List.set_cons_succ, i64_w, i32_w]
   rfl
 refine one_ (i := 4) (N := some 9) #[true, true, true, true, true, true, true, true, true, false, false, false, false] rfl rfl (one_of HT_.out (by kernel_rfl)) (by decide) (fun K hK => ?_)
 refine goes_ Try.func132 (by kernel_rfl) rfl #[.int .i64 a0_0, .int .i64 a1_0] (by rfl) rfl rfl (by (try simp only [List.map_toArray, List.map_cons, List.map_nil]); first | done | rfl | (simp only [List.length_drop, List.length_take]; rfl)) ?_
 with_reducible refine (cmp_Compare_int.calls a0_0 a1_0 t405 _ A3.out).mono ?_
 rintro e w' ⟨rfl, ⟨nd, rfl⟩⟩
 refine ⟨_, rfl, ?_⟩
 refine hK.out _ _ ⟨(blk_cell BK403.out 0).trans rfl, (blk_cell BK403.out 1).trans rfl, (blk_cell BK404.out 0).trans rfl, (blk_cell BK404.out 1).trans rfl⟩ (fun hHeld => ?_)
 clear hK K
 refine norm_ (a' := ?_) ?_ ?_
 rotate_left
 · show Act.put _ (some 9) _ = _
   simp only [Act.put, List.setIfInBounds_toArray, List.set_cons_zero, List.set_cons_succ, i64_w, i32_w]
   rfl
 refine one_ (i := 9) (N := some 14) #[true, true, true, true, true, true, true, true, true, true, false, false, false] rfl rfl (one_of HT_.out (by kernel_rfl)) (by decide) (fun K hK => ?_)
 refine goes_ Try.func132 (by kernel_rfl) rfl #[.int .i64 a0_1, .int .i64 a1_1] (by rfl) rfl rfl (by (try simp only [List.map_toArray, List.map_cons, List.map_nil]); first | done | rfl | (simp only [List.length_drop, List.length_take]; rfl)) ?_
 with_reducible refine (cmp_Compare_int.calls a0_1 a1_1 t406 _ A4.out).mono ?_
 rintro e w' ⟨rfl, ⟨nd, rfl⟩⟩
 refine ⟨_, rfl, ?_⟩
 refine hK.out _ _ ⟨(blk_cell BK403.out 0).trans rfl, (blk_cell BK403.out 1).trans rfl, (blk_cell BK404.out 0).trans rfl, (blk_cell BK404.out 1).trans rfl⟩ (fun hHeld => ?_)
 clear hK K
 refine norm_ (a' := ?_) ?_ ?_
 rotate_left
 · show Act.put _ (some 14) _ = _
   simp only [Act.put, List.setIfInBounds_toArray, List.set_cons_zero, List.set_cons_succ, i64_w, i32_w]
   rfl
 refine one_ (i := 10) (N := some 15) #[true, true, true, true, true, true, true, true, true, true, true, false, false] rfl rfl (one_of HT_.out (by kernel_rfl)) (by decide) (fun K hK => ?_)
 refine Kd.R_lit_step (Kd.int .i64) _ 3 ?hg (N := 15) ?hd (xs := ([t405, t406] : List Int)) (inner := [.int .i64 t405, .int .i64 t406]) (ok := fun _ => True) (okp := fun _ => True) ?hr ?hp (fun _ hk => hk) trivial (Below.refl _ _) (Nat.le_refl _) (by simp) ?_; (case hd => rfl); (case hg => rfl); (case hr => first | (go_simp; done) | (go_simp; rfl)); (case hp => exact (Reps.one (show Kd.M (Kd.int .i64) _ _ _ t405 [.int .i64 t405] from rfl) (Reps.one (show Kd.M (Kd.int .i64) _ _ _ t406 [.int .i64 t406] from rfl) (Reps.none _ _))))
 intro v408 w9 ho10 hb hg_ hnew_
 clear hg_ hnew_
 (first | rw [← Ny407.out] at ho10 | (simp only [Int.reduceToNat] at ho10; rw [← Ny407.out] at ho10))
 have n0_ := Aside0.mk (Kd.R_lower ho10 (below_size (by repeat (first | (with_reducible first | exact HB.out | apply below_alloc | apply pw_below_drewN | apply below_drew1 | refine below_set ?_ GE403.out | refine below_set ?_ GE404.out) | exact HB.out))))
 have n1_ := Aside0.mk (blk_below (g := gb403) (o := .cells #[.int .i64 a0_0, .int .i64 a0_1] 40 (0, 0)) (by (with_reducible repeat (first | refine blk_drewN ?_ _ | refine blk_drew ?_ | refine blk_alloc ?_ _)); exact BK403.out) hb)
 have n2_ := Aside0.mk (blk_below (g := gb404) (o := .cells #[.int .i64 a1_0, .int .i64 a1_1] 40 (0, 0)) (by (with_reducible repeat (first | refine blk_drewN ?_ _ | refine blk_drew ?_ | refine blk_alloc ?_ _)); exact BK404.out) hb)
 have n3_ := Aside0.mk (below_step (by repeat (first | (with_reducible first | exact HB.out | apply below_alloc | apply pw_below_drewN | apply below_drew1 | refine below_set ?_ GE403.out | refine below_set ?_ GE404.out) | exact HB.out)) hb)
 clear BK403
 clear BK404
 clear HB
 have HO409 := n0_
 have BK403 := n1_
 have BK404 := n2_
 have HB := n3_
 clear n0_ n1_ n2_ n3_
 clear hb ho10
 obtain ⟨Ao11, co11, eo11⟩ := Kd.R_slice HO409.out
 (first | subst eo11 | (injection eo11 with f1_ f2_ f3_; have f4_ := f1_.symm; have f5_ := f3_.symm; clear f1_ f2_ f3_; subst f4_; subst f5_))
 refine hK.out _ _ ⟨(blk_cell BK403.out 0).trans rfl, (blk_cell BK403.out 1).trans rfl, (blk_cell BK404.out 0).trans rfl, (blk_cell BK404.out 1).trans rfl⟩ (fun hHeld => ?_)
 clear hK K
 refine norm_ (a' := ?_) ?_ ?_
 rotate_left
 · show Act.put _ (some 15) _ = _
   simp only [Act.put, List.setIfInBounds_toArray, List.set_cons_zero, List.set_cons_succ, i64_w, i32_w]
   rfl
 refine one_ (i := 11) (N := some 16) #[true, true, true, true, true, true, true, true, true, true, true, true, false] rfl rfl (one_of HT_.out (by kernel_rfl)) (by decide) (fun K hK => ?_)
 refine goes_ Try.func131 (by kernel_rfl) rfl #[.slice Ao11 y407.length co11] (by rfl) rfl rfl (by (try simp only [List.map_toArray, List.map_cons, List.map_nil]); first | done | rfl | (simp only [List.length_drop, List.length_take]; rfl)) ?_
 with_reducible refine (cmp_Or_int.calls k _ _ y407 t410 _ ?side1 ?side2 A5.out).mono ?_
 (case side1 => repeat (first | exact (Kd.R_reads' HO409.out).2.2 | (with_reducible refine Kd.C_alloc ?_ _) | (with_reducible refine Kd.C_drewN ?_ _) | (with_reducible refine Kd.C_drew ?_)))
 (case side2 => exact (Kd.R_reads' HO409.out).2.1)
 rintro e w' ⟨rfl, ⟨nd, rfl⟩⟩
 refine ⟨_, rfl, ?_⟩
 refine hK.out _ _ ⟨(blk_cell BK403.out 0).trans rfl, (blk_cell BK403.out 1).trans rfl, (blk_cell BK404.out 0).trans rfl, (blk_cell BK404.out 1).trans rfl⟩ (fun hHeld => ?_)
 clear hK K
 refine norm_ (a' := ?_) ?_ ?_
 rotate_left
 · show Act.put _ (some 16) _ = _
   simp only [Act.put, List.setIfInBounds_toArray, List.set_cons_zero, List.set_cons_succ, i64_w, i32_w]
   rfl
 refine pure_ (i := 12) (N := some 4) (v := ?_) (a' := ?_) #[true, true, true, true, true, true, true, true, true, true, true, true, true] rfl rfl (any_of HT_.out (by kernel_rfl)) (fun _ _ _ h => h) (Or.inl ⟨by rfl, ?_⟩) ?_ ?_
 rotate_left
 · intro w'
   go_simp
   with_reducible rfl
 rotate_left
 · simp only [Act.put, List.setIfInBounds_toArray, List.set_cons_zero, List.set_cons_succ, i64_w, i32_w]
   rfl
 refine done_ (done_of HT_.out (by kernel_rfl)) ?_
 try go_wp2
 go_ret
 exact ⟨by first | rfl | (simp [errW_none, errW_some] <;> rfl) | (simp [*, errW_none, errW_some] <;> rfl), by repeat (first | (with_reducible first | exact HB.out | apply below_alloc | apply pw_below_drewN | apply below_drew1 | refine below_set ?_ GE403.out | refine below_set ?_ GE404.out) | exact HB.out)⟩
end Go.Proofs.Ytkkfpmgmicfkfaa.X
set_option linter.unusedVariables false
/- What the printed SameTopo, edges, Edge, compare compute. -/
namespace Go.Proofs.Ytkkfpmgmicfkfaa.X
open Go.RowKit Go.Proofs.YtkkfpmgmicfkfaaW.PrintWords Go.Proofs.YtkkfpmgmicfkfaaW.PrintLast Go.Proofs.YtkkfpmgmicfkfaaW.PrintMore Go.Proofs.Ytkkfpmgmicfkfaa
theorem drop_iff {α : Type} [DecidableEq α] (z : α) (x y : List α) (i : Int) (h0 : 0 ≤ i) (h1 : i < x.length) (hl : x.length = y.length) :
 (x.drop i.toNat = y.drop i.toNat) ↔ (x.getD i.toNat z = y.getD i.toNat z ∧ x.drop (i + 1).toNat = y.drop (i + 1).toNat) := by
 rw [drop_at z x i h0 h1, drop_at z y i h0 (by omega), List.cons.injEq]
theorem sameTopo_l (R : Nat) (e1 e2 : Int) (u1 u2 : List Bool) (x y : List (List S40)) (hl : x.length = y.length) (hn : x.length ≤ 9223372036854775807) (hR : ∀ l ∈ x, l.length ≤ R) (hR2 : R ≤ 9223372036854775807) (k : Nat) :
 (∀ i : Int, 0 ≤ i → i ≤ x.length → (x.length - i.toNat) * (R + 2) < k → braidworkref12_SameTopo.l1 k i e1 u1 x e2 u2 y = some (decide (x.drop i.toNat = y.drop i.toNat))) ∧
 (∀ i j : Int, 0 ≤ i → i < x.length → 0 ≤ j → j ≤ (x.getD i.toNat []).length → (x.getD i.toNat []).length = (y.getD i.toNat []).length → ((x.getD i.toNat []).length - j.toNat) + 1 + (x.length - (i.toNat + 1)) * (R + 2) < k → braidworkref12_SameTopo.l2 k i j e1 u1 x e2 u2 y = some (decide ((x.getD i.toNat []).drop j.toNat = (y.getD i.toNat []).drop j.toNat ∧ x.drop (i + 1).toNat = y.drop (i + 1).toNat))) := by
 induction k with
 | zero => exact ⟨fun i _ _ h => by omega, fun i j _ _ _ _ _ h => by omega⟩
 | succ k ih =>
  refine ⟨fun i h0 h1 hk => ?_, fun i j h0 h1 hj0 hj1 hlj hk => ?_⟩
  · unfold braidworkref12_SameTopo.l1
    by_cases hi : i < x.length
    · rw [if_pos hi, if_pos h0, if_pos (by omega)]
      have hm : (x.length - i.toNat) * (R + 2) = (x.length - (i.toNat + 1)) * (R + 2) + (R + 2) := by
       rw [show x.length - i.toNat = (x.length - (i.toNat + 1)) + 1 by omega, Nat.succ_mul]
      have hr : (x.getD i.toNat []).length ≤ R := by
       rw [List.getD_eq_getElem?_getD, List.getElem?_eq_getElem (show i.toNat < x.length by omega)]
       exact hR _ (List.getElem_mem _)
      have h2 := drop_iff [] x y i h0 hi hl
      by_cases he : (x.getD i.toNat []).length = (y.getD i.toNat []).length
      · rw [if_pos (show ((rd_L5 x i).length : Int) = ((rd_L5 y i).length : Int) by simp only [rd_L5]; omega), ih.2 i 0 h0 hi (by omega) (by omega) he (by omega)]
        rw [decide_eq_decide.2 h2]
        rfl
      · rw [if_neg (show ¬ ((rd_L5 x i).length : Int) = ((rd_L5 y i).length : Int) by simp only [rd_L5]; omega), decide_eq_false (fun h => he (by rw [(h2.1 h).1]))]
    · rw [if_neg hi, drop_end x i (by omega), drop_end y i (by omega)]
      rfl
  · unfold braidworkref12_SameTopo.l2
    have hr : (x.getD i.toNat []).length ≤ R := by
     rw [List.getD_eq_getElem?_getD, List.getElem?_eq_getElem (show i.toNat < x.length by omega)]
     exact hR _ (List.getElem_mem _)
    rw [if_pos h0, if_pos h1]
    show (if j < ((x.getD i.toNat []).length : Int) then _ else _) = _
    by_cases hj : j < ((x.getD i.toNat []).length : Int)
    · rw [if_pos hj, if_pos hj0, if_pos (by omega), if_pos (show j < ((rd_L5 y i).length : Int) by simp only [rd_L5]; omega), wrap_up j _ hj0 hj (by omega)]
      have h2 := drop_iff z40 (x.getD i.toNat []) (y.getD i.toNat []) j hj0 hj hlj
      by_cases he : rd_T40 (rd_L5 x i) j = rd_T40 (rd_L5 y i) j
      · rw [if_neg (by rw [edge_ne]; exact fun h => h he), ih.2 i (j + 1) h0 h1 (by omega) (by omega) hlj (by omega)]
        have he : (x.getD i.toNat []).getD j.toNat z40 = (y.getD i.toNat []).getD j.toNat z40 := he
        rw [Option.some.injEq, decide_eq_decide, h2]
        simp only [he, true_and]
      · rw [if_pos ((edge_ne _ _).2 he)]
        have he : ¬ (x.getD i.toNat []).getD j.toNat z40 = (y.getD i.toNat []).getD j.toNat z40 := he
        rw [decide_eq_false (fun h => he (h2.1 h.1).1)]
    · rw [if_neg hj, wrap_up i _ h0 h1 hn, ih.1 (i + 1) (by omega) (by omega) (by
       have : (i + 1).toNat = i.toNat + 1 := by omega
       rw [this]
       omega)]
      rw [drop_end (x.getD i.toNat []) j (by omega), drop_end (y.getD i.toNat []) j (by omega)]
      simp only [true_and]
theorem sameTopo_u (R : Nat) (e1 e2 : Int) (u1 u2 : List Bool) (x y : List (List S40)) (hl : x.length = y.length) (hlu : u1.length = u2.length) (hn : x.length ≤ 9223372036854775807) (hnu : u1.length ≤ 9223372036854775807) (hR : ∀ l ∈ x, l.length ≤ R) (hR2 : R ≤ 9223372036854775807) (k : Nat) :
 ∀ i : Int, 0 ≤ i → i ≤ u1.length → (u1.length - i.toNat) + 1 + x.length * (R + 2) < k → braidworkref12_SameTopo.l0 k i e1 u1 x e2 u2 y = some (decide (u1.drop i.toNat = u2.drop i.toNat ∧ x = y)) := by
 induction k with
 | zero => intro i _ _ h; omega
 | succ k ih =>
  intro i h0 h1 hk
  unfold braidworkref12_SameTopo.l0
  by_cases hi : i < u1.length
  · rw [if_pos hi, if_pos h0, if_pos (by omega), wrap_up i _ h0 hi hnu]
    have h2 := drop_iff false u1 u2 i h0 hi hlu
    by_cases he : rdOf false u1 i = rdOf false u2 i
    · rw [if_neg (by simp [he]), ih (i + 1) (by omega) (by omega) (by omega)]
      have he : u1.getD i.toNat false = u2.getD i.toNat false := he
      rw [Option.some.injEq, decide_eq_decide, h2]
      simp only [he, true_and]
    · rw [if_pos (bne_iff_ne.2 he)]
      have he : ¬ u1.getD i.toNat false = u2.getD i.toNat false := he
      rw [decide_eq_false (fun h => he (h2.1 h.1).1)]
  · rw [if_neg hi, drop_end u1 i (by omega), drop_end u2 i (by omega), (sameTopo_l R e1 e2 u1 u2 x y hl hn hR hR2 k).1 0 (by omega) (by omega) (by simp; omega)]
    simp
theorem sameTopo_eq (R : Nat) (e1 e2 : Int) (u1 u2 : List Bool) (x y : List (List S40)) (hn : x.length ≤ 9223372036854775807) (hnu : u1.length ≤ 9223372036854775807) (hR : ∀ l ∈ x, l.length ≤ R) (hR2 : R ≤ 9223372036854775807) (k : Nat) (hk : u1.length + 2 + x.length * (R + 2) < k) :
 braidworkref12_SameTopo.f k e1 u1 x e2 u2 y = some (decide (e1 = e2 ∧ u1 = u2 ∧ x = y)) := by
 obtain ⟨k, rfl⟩ : ∃ m, k = m + 1 := ⟨k - 1, by omega⟩
 unfold braidworkref12_SameTopo.f
 simp only [braidworkref12_SameTopo.j0]
 by_cases he : e1 = e2
 · rw [if_pos he]
   by_cases hu : u1.length = u2.length
   · rw [if_pos (by omega)]
     by_cases hx : x.length = y.length
     · rw [if_neg (by simp; omega), sameTopo_u R e1 e2 u1 u2 x y hx hu hn hnu hR hR2 k 0 (by omega) (by omega) (by simp; omega)]
       simp [he]
     · rw [if_pos (by simp; omega), decide_eq_false (fun h => hx (by rw [h.2.2]))]
   · rw [if_neg (by omega), if_pos trivial, decide_eq_false (fun h => hu (by rw [h.2.1]))]
 · rw [if_neg he, if_pos trivial, decide_eq_false (fun h => he h.1)]
/-! ### edges of a flow -/
def edgesAt (hops : List (List S40)) (flow : Int) : List S40 := if 0 ≤ flow ∧ flow < hops.length then hops.getD flow.toNat [] else []
theorem topo_edges_eq (ep : Int) (up : List Bool) (hops : List (List S40)) (flow : Int) (hn : hops.length ≤ 9223372036854775807) : topo_edges.f ep up hops flow = some (edgesAt hops flow) := by
 unfold topo_edges.f topo_within.f edgesAt
 rw [IntWalk.wrap64_in _ (by omega)]
 by_cases h0 : 0 ≤ flow
 · rw [if_pos h0]
   by_cases h1 : flow < hops.length
   · rw [Option.bind_some, if_pos (by simp; omega), if_pos h0, if_pos h1, if_pos ⟨h0, h1⟩]
     rfl
   · rw [Option.bind_some, if_neg (by simp; omega), if_neg (fun h => h1 h.2)]
 · rw [if_neg h0, Option.bind_some, if_neg (by simp), if_neg (fun h => h0 h.1)]
theorem topo_Edge_eq (ep : Int) (up : List Bool) (hops : List (List S40)) (flow a b : Int) (hn : hops.length ≤ 9223372036854775807) (hm : (edgesAt hops flow).length ≤ 9223372036854775807) (k : Nat) (hk : (edgesAt hops flow).length < k) :
 topo_Edge.f k ep up hops flow a b = some (decide ((⟨a, b⟩ : S40) ∈ edgesAt hops flow)) := by
 unfold topo_Edge.f
 rw [topo_edges_eq ep up hops flow hn, Option.bind_some, containse_eq _ a b hm k hk]
 rfl
/-! ### the order of edges -/
theorem compare_eq (a b : Int) : cmp_Compare_int.f a b = some (if a < b then -1 else if a > b then 1 else 0) := by
 unfold cmp_Compare_int.f cmp_isNaN_int.f
 simp only [bne_self_eq_false, Option.bind_some, Bool.false_eq_true, if_false]
 by_cases h1 : a < b
 · simp only [h1, if_true]
 · by_cases h2 : a > b
   · simp only [h1, h2, if_true, if_false]
   · simp only [h1, h2, if_false]
theorem or2_eq (a b : Int) (k : Nat) (hk : 3 ≤ k) : cmp_Or_int.f k [a, b] = some (if a = 0 then b else a) := by
 obtain ⟨k, rfl⟩ : ∃ m, k = m + 3 := ⟨k - 3, by omega⟩
 unfold cmp_Or_int.f cmp_Or_int.l0
 by_cases ha : a = 0
 · subst ha
   by_cases hb : b = 0
   · subst hb
     simp [rd, cmp_Or_int.l0, wrap64]
   · simp [rd, cmp_Or_int.l0, wrap64, hb]
 · simp [rd, ha]
theorem order_eq (a b : S40) (k : Nat) (hk : 3 ≤ k) : topo_order.f k a.f0 a.f1 b.f0 b.f1 = some (if a.f0 < b.f0 then -1 else if a.f0 > b.f0 then 1 else if a.f1 < b.f1 then -1 else if a.f1 > b.f1 then 1 else 0) := by
 unfold topo_order.f
 rw [compare_eq, Option.bind_some, compare_eq, Option.bind_some, or2_eq _ _ k hk, Option.bind_some]
 rw [Option.some.injEq]
 split <;> split at * <;> simp_all
end Go.Proofs.Ytkkfpmgmicfkfaa.X
set_option linter.unusedVariables false
/- topo.Same. -/
namespace Go.Proofs.Ytkkfpmgmicfkfaa.X
open Go.RowKit Go.Proofs.YtkkfpmgmicfkfaaW.PrintWords Go.Proofs.YtkkfpmgmicfkfaaW.PrintLast Go.Proofs.YtkkfpmgmicfkfaaW.PrintMore Go.Proofs.Ytkkfpmgmicfkfaa
theorem take_end {α : Type} (z : α) (l : List α) (i : Int) (h0 : 0 ≤ i) (h1 : i < l.length) : l.take (i + 1).toNat = l.take i.toNat ++ [l.getD i.toNat z] := by
 have e : (i + 1).toNat = i.toNat + 1 := by omega
 have hl : i.toNat < l.length := by omega
 rw [e, List.take_succ_eq_append_getElem hl]
 simp [List.getD_eq_getElem?_getD, hl]
set_option maxHeartbeats 8000000 in
set_option maxRecDepth 100000 in
theorem equalFunc_edges (A1 : Option Addr) (c1 : Nat) (x : List (List S40)) (A2 : Option Addr) (c2 : Nat) (y : List (List S40)) (w : World)
 (hx : Kd.C (Kd.slice 40 k40) w A1 x.length x) (hy : Kd.C (Kd.slice 40 k40) w A2 y.length y) (hlx : ∀ l ∈ x, l.length ≤ 9223372036854775807) :
 Calls Try.prog 84 #[.slice A1 x.length c1, .slice A2 y.length c2, .func (.func 85) #[] #[]] w fun e w' => e = .returned (.bool (decide (x = y))) ∧ Drawn0 w w' := by
 have hl1 := hx.2.1
 have hl2 := hy.2.1
 have HX := Aside0.mk hx
 have HY := Aside0.mk hy
 have HLX := Aside0.mk hlx
 have eg : ∀ args w, (callFunc 85 args).run Try.prog w = .ok (.enter 85 args) w := enters_of Try.func85 (by kernel_rfl) rfl
 clear hx hy hlx
 by_cases hl : x.length = y.length
 · rw [show (.slice A2 y.length c2 : Value) = .slice A2 x.length c2 by rw [hl]]
   have HY := Aside0.mk (show Kd.C (Kd.slice 40 k40) w A2 x.length y by rw [hl]; exact HY.out)
   have HL := Aside0.mk hl
   clear hl hl2
   go_enter Try.func84, Try.ntmps84
   go_wp2
   go_loopg [6, 7, 8, 9, 17] x.length (fun gg v6 v7 v8 v9 v17 W => ∃ i : Int, 0 ≤ i ∧ i ≤ x.length ∧ x.length - i.toNat ≤ gg ∧ v17 = .int .i64 i ∧ Aside0 (Drawn0 w W) ∧ Aside0 (x.take i.toNat = y.take i.toNat))
   case atStart => exact ⟨0, by omega, by omega, by omega, rfl, ⟨Drawn0.refl _⟩, ⟨by simp⟩⟩
   case round =>
    obtain ⟨i, h0, h1, hg, rfl, BW, HA⟩ := hrel
    by_cases hi : i < x.length
    · obtain ⟨ad1, B1, d1, e1, hc1, hle1, hC1⟩ := Rows1.at_rows HX.out i h0 hi
      obtain ⟨ad2, B2, d2, e2, hc2, hle2, hC2⟩ := Rows1.at_rows HY.out i h0 hi
      cases e1
      cases e2
      have hc1 := pw_cell_below BW.out.below hc1
      have hc2 := pw_cell_below BW.out.below hc2
      have HC1 := Aside0.mk (Kd.C_below hC1 BW.out.below)
      have HC2 := Aside0.mk (Kd.C_below hC2 BW.out.below)
      have hiy : i < y.length := by have := HL.out; omega
      have hq : (Rows1.rdr x i).length ≤ 9223372036854775807 := hC1.2.1
      have hE := Aside0.mk (eqe_eq (Rows1.rdr x i) (Rows1.rdr y i) hq ((Rows1.rdr x i).length + 1) (Nat.lt_succ_self _))
      have HT1 := Aside0.mk (take_end [] x i h0 hi)
      have HT2 := Aside0.mk (take_end [] y i h0 hiy)
      clear hiy
      have HLE1 := Aside0.mk hle1
      have HLE2 := Aside0.mk hle2
      clear hC1 hC2 hle1 hle2
      go_wp2_with fail
      refine (api_Edge_85.calls _ B1 d1 (Rows1.rdr x i) B2 d2 (Rows1.rdr y i) _ _ HC1.out HLE1.out HC2.out HLE2.out hE.out).mono ?_
      rintro e w1 ⟨rfl, nd, rfl⟩
      have BW1 := Aside0.mk (Drawn0.step BW.out nd)
      by_cases hq : Rows1.rdr x i = Rows1.rdr y i
      · have HQ := Aside0.mk (show x.take (i + 1).toNat = y.take (i + 1).toNat by rw [HT1.out, HT2.out, HA.out]; exact congrArg (fun z => y.take i.toNat ++ [z]) hq)
        rw [decide_eq_true hq]
        clear hq hE HT1 HT2
        go_wp2
        go_roundg (x.length - (i + 1).toNat)
        case measure => omega
        case rel => exact ⟨i + 1, by omega, by omega, Nat.le_refl _, rfl, BW1, HQ⟩
      · have HQ := Aside0.mk (show decide (x = y) = false from decide_eq_false (fun h => hq (by rw [h])))
        rw [decide_eq_false hq]
        clear hq hE HT1 HT2
        go_wp2
        go_ret
        exact ⟨by rw [HQ.out]; rfl, BW1.out⟩
    · have HQ := Aside0.mk (show decide (x = y) = true from decide_eq_true (by
       have := HA.out
       have := HL.out
       rwa [List.take_of_length_le (by omega), List.take_of_length_le (by omega)] at *))
      go_wp2
      go_ret
      exact ⟨by rw [HQ.out]; rfl, BW.out⟩
 · have hlt : decide ((x.length : Int) = (y.length : Int)) = false := by simp; omega
   have HQ := Aside0.mk (show decide (x = y) = false from decide_eq_false (fun h => hl (by rw [h])))
   go_enter Try.func84, Try.ntmps84
   go_wp2
   go_ret
   exact ⟨by rw [HQ.out]; rfl, Drawn0.refl _⟩
set_option maxHeartbeats 8000000 in
set_option maxRecDepth 100000 in
theorem topo_same (e1 : Int) (A1 : Option Addr) (a1 : Nat) (u1 : List Bool) (H1 : Option Addr) (b1 : Nat) (h1 : List (List S40)) (e2 : Int) (A2 : Option Addr) (a2 : Nat) (u2 : List Bool) (H2 : Option Addr) (b2 : Nat) (h2 : List (List S40)) (w : World)
 (hu1 : Kd.C Kd.bool w A1 u1.length u1) (hu1c : u1.length ≤ a1) (hu2 : Kd.C Kd.bool w A2 u2.length u2) (hu2c : u2.length ≤ a2) (hh1 : Kd.C (Kd.slice 40 k40) w H1 h1.length h1) (hh2 : Kd.C (Kd.slice 40 k40) w H2 h2.length h2) (hl1 : ∀ l ∈ h1, l.length ≤ 9223372036854775807) :
 Calls Try.prog 18 #[.agg #[.int .u64 e1, .slice A1 u1.length a1, .slice H1 h1.length b1], .agg #[.int .u64 e2, .slice A2 u2.length a2, .slice H2 h2.length b2]] w fun e w' => e = .returned (.bool (decide (e1 = e2 ∧ u1 = u2 ∧ h1 = h2))) ∧ Below w.heap.size w w' := by
 have HU1 := Aside0.mk hu1
 have HU2 := Aside0.mk hu2
 have HH1 := Aside0.mk hh1
 have HH2 := Aside0.mk hh2
 have HL1 := Aside0.mk hl1
 have hb : Below w.heap.size w ((w.alloc (.cells #[.int .u64 e1, .slice A1 u1.length a1, .slice H1 h1.length b1] 29)).alloc (.cells #[.int .u64 e2, .slice A2 u2.length a2, .slice H2 h2.length b2] 29)) := below_alloc (below_alloc (Below.refl _ _) _) _
 have hB1 : ((w.alloc (.cells #[.int .u64 e1, .slice A1 u1.length a1, .slice H1 h1.length b1] 29)).alloc (.cells #[.int .u64 e2, .slice A2 u2.length a2, .slice H2 h2.length b2] 29)).heap[w.heap.size]? = some (.cells #[.int .u64 e1, .slice A1 u1.length a1, .slice H1 h1.length b1] 29 (0, 0)) := by
  rw [heap_alloc_old _ _ (by simp)]
  exact blk_new w _
 have hB2 : ((w.alloc (.cells #[.int .u64 e1, .slice A1 u1.length a1, .slice H1 h1.length b1] 29)).alloc (.cells #[.int .u64 e2, .slice A2 u2.length a2, .slice H2 h2.length b2] 29)).heap[w.heap.size + 1]? = some (.cells #[.int .u64 e2, .slice A2 u2.length a2, .slice H2 h2.length b2] 29 (0, 0)) := by
  simpa using blk_new (w.alloc (.cells #[.int .u64 e1, .slice A1 u1.length a1, .slice H1 h1.length b1] 29)) _
 have HB := Aside0.mk hb
 have HB1 := Aside0.mk hB1
 have HB2 := Aside0.mk hB2
 have hq := Aside0.mk (eqb_eq u1 u2 hu1.2.1 (u1.length + 1) (Nat.lt_succ_self _))
 clear hu1 hu2 hh1 hh2 hl1 hb hB1 hB2
 by_cases he : e1 = e2
 · have he1 : decide (e1 = e2) = true := decide_eq_true he
   have he2 : (e1 == e2) = true := beq_iff_eq.2 he
   have HE := Aside0.mk he
   clear he
   by_cases hu : u1 = u2
   · have hU := Aside0.mk (show decide (u1 = u2) = true from decide_eq_true hu)
     have HU := Aside0.mk hu
     clear hu
     go_enter Try.func18, Try.ntmps18
     go_wp2_with fail
     refine (slices_Equal_bool_bool.calls _ A1 a1 u1 A2 a2 u2 _ _ (Kd.C_below HU1.out HB.out) hu1c (Kd.C_below HU2.out HB.out) hu2c hq.out).mono ?_
     rintro e w1 ⟨rfl, ⟨nd, rfl⟩⟩
     rw [hU.out]
     have HBn := Aside0.mk (pw_below_drewN HB.out nd)
     go_wp2_with fail
     refine (equalFunc_edges H1 b1 h1 H2 b2 h2 _ (Kd.C_below HH1.out HBn.out) (Kd.C_below HH2.out HBn.out) HL1.out).mono ?_
     rintro e w1 ⟨rfl, hd⟩
     have HBm := Aside0.mk (below_then HBn.out HBn.out.size hd.below)
     have HQ := Aside0.mk (show decide (e1 = e2 ∧ u1 = u2 ∧ h1 = h2) = decide (h1 = h2) by simp [HE.out, HU.out])
     clear hd
     go_wp2
     go_ret
     exact ⟨by rw [HQ.out]; rfl, HBm.out⟩
   · have hU := Aside0.mk (show decide (u1 = u2) = false from decide_eq_false hu)
     have HU := Aside0.mk hu
     clear hu
     go_enter Try.func18, Try.ntmps18
     go_wp2_with fail
     refine (slices_Equal_bool_bool.calls _ A1 a1 u1 A2 a2 u2 _ _ (Kd.C_below HU1.out HB.out) hu1c (Kd.C_below HU2.out HB.out) hu2c hq.out).mono ?_
     rintro e w1 ⟨rfl, ⟨nd, rfl⟩⟩
     rw [hU.out]
     have HBn := Aside0.mk (pw_below_drewN HB.out nd)
     have HQ := Aside0.mk (show decide (e1 = e2 ∧ u1 = u2 ∧ h1 = h2) = false from decide_eq_false (fun h => HU.out h.2.1))
     go_wp2
     go_ret
     exact ⟨by rw [HQ.out]; rfl, HBn.out⟩
 · have he1 : decide (e1 = e2) = false := decide_eq_false he
   have he2 : (e1 == e2) = false := beq_eq_false_iff_ne.2 he
   have HQ := Aside0.mk (show decide (e1 = e2 ∧ u1 = u2 ∧ h1 = h2) = false from decide_eq_false (fun h => he h.1))
   clear he
   go_enter Try.func18, Try.ntmps18
   go_wp2
   go_ret
   exact ⟨by rw [HQ.out]; rfl, HB.out⟩
end Go.Proofs.Ytkkfpmgmicfkfaa.X
set_option linter.unusedVariables false
/- braidworklaw19.cut. -/
namespace Go.Proofs.Ytkkfpmgmicfkfaa.X
open Go.RowKit Go.Proofs.YtkkfpmgmicfkfaaW.PrintWords Go.Proofs.YtkkfpmgmicfkfaaW.PrintLast Go.Proofs.YtkkfpmgmicfkfaaW.PrintMore Go.Proofs.Ytkkfpmgmicfkfaa
def cutU (up : List Bool) : List Bool := up.take 80
def cutH (hops : List (List S40)) : List (List S40) := (hops.take 5).map (·.take 140)
structure CutMid (w : World) (ep : Int) (A1 : Option Addr) (c1 : Nat) (up : List Bool) (A2 : Option Addr) (c2 : Nat) (n2 : Nat) (v1 v2 : Value) (u1 : List Bool) (rows : List (List S40)) (W : World) (b : Nat) : Prop where
 r1 : Kd.R Kd.bool 4 W w.heap.size (fun _ => True) v1 u1
 r2 : Kd.R (Kd.slice 40 k40) 38 W w.heap.size (fun _ => True) v2 rows
 bx : W.heap[b]? = some (.cells #[.int .u64 ep, v1, v2] 29 (0, 0))
 inb : W.heap[w.heap.size]? = some (.cells #[.int .u64 ep, .slice A1 up.length c1, .slice A2 n2 c2] 29 (0, 0))
 res : W.heap[w.heap.size + 1]? = some (.cells #[.int .u64 0, .slice none 0 0, .slice none 0 0] 29 (0, 0))
 low : w.heap.size + 1 < b
 bel : Below w.heap.size w W
theorem cut_step {w : World} {ep : Int} {A1 : Option Addr} {c1 : Nat} {up : List Bool} {A2 : Option Addr} {c2 n2 : Nat} {v1 v2 v4 : Value} {u1 : List Bool} {rows rows' : List (List S40)} {W w3 w4 : World} {b : Nat}
 (h : CutMid w ep A1 c1 up A2 c2 n2 v1 v2 u1 rows W b) (hb : Below W.heap.size W w3) (ho : Kd.R (Kd.slice 40 k40) 38 w4 w.heap.size (fun _ => True) v4 rows') (hb4 : Below w.heap.size w w4) (hg : w3.grownBy w4 v2.ownBlock) :
 CutMid w ep A1 c1 up A2 c2 n2 v1 v4 u1 rows' (w4.setCell ⟨b, 2, none⟩ v4) b := by
 have r1 := Kd.R_below h.r1 hb
 have r2 := Kd.R_below h.r2 hb
 obtain ⟨_, inner, ho2, _⟩ := r2
 have hne := own_type_ne (Kd.own_of_R r1) ho2 (by decide)
 have r1' := Kd.R_of_own (ok := fun _ => True) (h1 := fun _ => rfl) (own_other (Kd.own_of_R r1) hg hne) (fun _ _ => trivial)
 have bx4 := blk_grown ((hb.block _ (blk_lt h.bx)).trans h.bx) hg (Kd.R_ne h.r2 h.bx (by decide))
 have in4 := blk_grown ((hb.block _ (blk_lt h.inb)).trans h.inb) hg (Kd.R_ne h.r2 h.inb (by decide))
 have re4 := blk_grown ((hb.block _ (blk_lt h.res)).trans h.res) hg (Kd.R_ne h.r2 h.res (by decide))
 have hl := h.low
 exact ⟨Kd.R_set r1' bx4 (by decide) _ _, Kd.R_set ho bx4 (by decide) _ _, blk_put bx4 2 v4 rfl, blk_far in4 (p := ⟨b, 2, none⟩) (by show w.heap.size ≠ b; omega) _, blk_far re4 (p := ⟨b, 2, none⟩) (by show w.heap.size + 1 ≠ b; omega) _, h.low, below_set hb4 (by omega)⟩
theorem cutH_end (hops : List (List S40)) (i : Int) (h0 : 0 ≤ i) (h1 : i ≤ hops.length) (h5 : i ≤ 5) (h : ¬ (i < hops.length ∧ i < 5)) : (hops.take i.toNat).map (·.take 140) = cutH hops := by
 unfold cutH
 congr 1
 rw [List.take_eq_take_iff]
 omega
set_option maxHeartbeats 8000000 in
set_option maxRecDepth 100000 in
theorem cut_any (ep : Int) (A1 : Option Addr) (c1 : Nat) (up : List Bool) (A2 : Option Addr) (c2 : Nat) (hops : List (List S40)) (w : World)
 (hu : Kd.C Kd.bool w A1 up.length up) (hu1 : up.length ≤ c1) (hh : Kd.C (Kd.slice 40 k40) w A2 hops.length hops) (hh1 : hops.length ≤ c2) :
 Calls Try.prog 13 #[.agg #[.int .u64 ep, .slice A1 up.length c1, .slice A2 hops.length c2]] w fun e w' => ∃ v1 v2 : Value, e = .returned (.agg #[.int .u64 ep, v1, v2]) ∧ Kd.R Kd.bool 4 w' w.heap.size (fun _ => True) v1 (cutU up) ∧ Kd.R (Kd.slice 40 k40) 38 w' w.heap.size (fun _ => True) v2 (cutH hops) ∧ Below w.heap.size w w' := by
 have hul := hu.2.1
 have hhl := hh.2.1
 have HU := Aside0.mk hu
 have HH := Aside0.mk hh
 clear hu hh
 go_enter Try.func13, Try.ntmps13
 go_wp2_with fail
 have hb0 : Below w.heap.size w ((w.alloc (.cells #[.int .u64 ep, .slice A1 up.length c1, .slice A2 hops.length c2] 29)).alloc (.cells #[.int .u64 0, .slice none 0 0, .slice none 0 0] 29)) := below_alloc (below_alloc (Below.refl _ _) _) _
 have hB1 : ((w.alloc (.cells #[.int .u64 ep, .slice A1 up.length c1, .slice A2 hops.length c2] 29)).alloc (.cells #[.int .u64 0, .slice none 0 0, .slice none 0 0] 29)).heap[w.heap.size]? = some (.cells #[.int .u64 ep, .slice A1 up.length c1, .slice A2 hops.length c2] 29 (0, 0)) := by
  rw [heap_alloc_old _ _ (by simp)]
  exact blk_new w _
 have hB2 : ((w.alloc (.cells #[.int .u64 ep, .slice A1 up.length c1, .slice A2 hops.length c2] 29)).alloc (.cells #[.int .u64 0, .slice none 0 0, .slice none 0 0] 29)).heap[w.heap.size + 1]? = some (.cells #[.int .u64 0, .slice none 0 0, .slice none 0 0] 29 (0, 0)) := by
  simpa using blk_new (w.alloc (.cells #[.int .u64 ep, .slice A1 up.length c1, .slice A2 hops.length c2] 29)) _
 generalize hW : ((w.alloc (.cells #[.int .u64 ep, .slice A1 up.length c1, .slice A2 hops.length c2] 29)).alloc (.cells #[.int .u64 0, .slice none 0 0, .slice none 0 0] 29)) = w1 at hb0 hB1 hB2 ⊢
 clear hW
 have hC := Kd.C_take (m := min up.length 80) HU.out (Nat.min_le_left _ _)
 have hmm : min (up.length : Int) 80 = ((min up.length 80 : Nat) : Int) := by omega
 have hle : min up.length 80 ≤ c1 := by omega
 have htk : up.take (min up.length 80) = up.take 80 := by rw [List.take_eq_take_iff]; omega
 rw [htk] at hC
 have hn1 : min up.length 80 = (up.take 80).length := by rw [List.length_take]; omega
 have hn80 : (up.take 80).length ≤ 80 := by rw [List.length_take]; omega
 rw [hn1] at hmm hle
 generalize hu1' : up.take 80 = u1 at hC hmm hle hn80 ⊢
 have HU1 : Aside0 (cutU up = u1) := Aside0.mk hu1'
 clear htk hn1 hu1'
 have hC1 := Aside0.mk hC
 have hleI : (u1.length : Int) ≤ c1 := by omega
 have hlt1 := blk_lt hB1
 have hlt2 := blk_lt hB2
 clear hC
 rename_i Q0 K0 hK0
 have rest : ∀ (B1 : Option Addr) (d1 : Nat) (W : World) (b : Nat), CutMid w ep A1 c1 up A2 c2 hops.length (.slice B1 u1.length d1) (.slice none 0 0) u1 [] W b → Exit.then K0 Q0 .normal { tmps := #[.agg #[.int .u64 ep, .slice A1 up.length c1, .slice A2 hops.length c2], .pointer (some ⟨w.heap.size, 0, none⟩), .pointer (some ⟨w.heap.size + 1, 0, none⟩), .pointer (some ⟨b, 0, none⟩), undef, .pointer (some ⟨w.heap.size, 0, none⟩), .int .u64 ep, .pointer (some ⟨w.heap.size, 1, none⟩), .slice A1 up.length c1, .pointer (some ⟨w.heap.size, 1, none⟩), .slice A1 up.length c1, .int .i64 up.length, .int .i64 u1.length, .slice A1 u1.length c1, .slice B1 u1.length d1, .agg #[.int .u64 ep, .slice B1 u1.length d1, .slice none 0 0], undef, undef, undef, undef, undef, undef, undef, undef, undef, undef, undef, undef, undef, undef, undef, undef, undef, undef, undef, undef, undef, undef, undef, undef, undef, undef, undef, undef, undef, undef, undef], defers := [] } W := by
  clear hb0 hB1 hB2 hlt1 hlt2
  clear w1
  intro B1 d1 W b hm
  have HM := Aside0.mk hm
  have hlow := hm.low
  clear hm
  go_wp2_with fail
  go_loopg [4] hops.length (fun gg v4 W' => ∃ (i : Int) (v2 : Value), 0 ≤ i ∧ i ≤ hops.length ∧ i ≤ 5 ∧ hops.length - i.toNat ≤ gg ∧ v4 = .int .i64 i ∧ Aside0 (CutMid w ep A1 c1 up A2 c2 hops.length (.slice B1 u1.length d1) v2 u1 ((hops.take i.toNat).map (·.take 140)) W' b))
  case atStart => exact ⟨0, _, by omega, by omega, by omega, by omega, rfl, HM⟩
  case round =>
   clear HM
   obtain ⟨i, v2, hi0, hi1, hi5, hg, rfl, HM⟩ := hrel
   obtain ⟨hc0, hc1, hc2, hf0, hf1, hf2⟩ := box3 HM.out.bx
   have hy2 : wr.cell? ⟨w.heap.size, 2, none⟩ = some (.slice A2 hops.length c2) := (blk_cell HM.out.inb 2).trans rfl
   obtain ⟨A2v, c2v, rfl⟩ := Kd.R_slice HM.out.r2
   by_cases hlt : i < hops.length ∧ i < 5
   · obtain ⟨hlt, hlt5⟩ := hlt
     have hl5 : decide (i < 5) = true := decide_eq_true hlt5
     obtain ⟨ad, A0, c0, eA, hx0, hle0, hC0⟩ := Rows1.at_rows HH.out i hi0 hlt
     cases eA
     have HX0 := Aside0.mk hx0
     have hx0 := pw_cell_below HM.out.bel hx0
     have hC0 := Kd.C_take (m := min (Rows1.rdr hops i).length 140) hC0 (Nat.min_le_left _ _)
     have hll := hC0.2.1
     have hmm0 : min ((Rows1.rdr hops i).length : Int) 140 = ((min (Rows1.rdr hops i).length 140 : Nat) : Int) := by omega
     have hle2 : min (Rows1.rdr hops i).length 140 ≤ c0 := by omega
     have htk : (Rows1.rdr hops i).take (min (Rows1.rdr hops i).length 140) = (Rows1.rdr hops i).take 140 := by rw [List.take_eq_take_iff]; omega
     rw [htk] at hC0
     have hn2 : min (Rows1.rdr hops i).length 140 = ((Rows1.rdr hops i).take 140).length := by rw [List.length_take]; omega
     have hn140 : ((Rows1.rdr hops i).take 140).length ≤ 140 := by rw [List.length_take]; omega
     have HTK : Aside0 ((hops.take (i + 1).toNat).map (·.take 140) = (hops.take i.toNat).map (·.take 140) ++ [(Rows1.rdr hops i).take 140]) := ⟨by
      rw [show (i + 1).toNat = i.toNat + 1 by omega, List.take_succ_eq_append_getElem (show i.toNat < hops.length by omega), List.map_append]
      simp [Rows1.rdr, List.getD_eq_getElem?_getD, show i.toNat < hops.length by omega]⟩
     rw [hn2] at hmm0 hle2
     generalize (Rows1.rdr hops i).take 140 = l at hC0 hmm0 hle2 hn140 HTK
     generalize (Rows1.rdr hops i).length = n0 at hmm0 hle0 hx0 HX0 hll hn2 htk
     clear htk hn2
     have HC0 := Aside0.mk hC0
     have HLR := Aside0.mk (show ((hops.take i.toNat).map (·.take 140)).length ≤ 5 by rw [List.length_map, List.length_take]; omega)
     generalize (hops.take i.toNat).map (·.take 140) = rows at HM HTK HLR hc2
     have hleI0 : (l.length : Int) ≤ c0 := by omega
     clear hC0
     have hbw := HM.out.bel
     have hbx := HM.out.bx
     have hown2 := Aside0.mk (show ∀ k, wr.heap.size ≤ k → some k ≠ (Value.slice A2v rows.length c2v).ownBlock from fun k hk e => absurd (Kd.R_lt HM.out.r2 k e.symm) (by omega))
     go_wp2_with fail
     refine Until.region (S := fun W => W.cell? ⟨b, 2, none⟩ = some (.slice A2v rows.length c2v) ∧ W.cell? ⟨w.heap.size, 2, none⟩ = some (.slice (some ad) hops.length c2) ∧ W.cell? (ad.add i.toNat) = some (.slice A0 n0 c0)) 19 (by kernel_rfl) ⟨hc2, hy2, hx0⟩ (fun hS => ?_)
     refine Until.take (i := 0) (v := ?_) rfl (by kernel_rfl) (by kernel_rfl) (by kernel_rfl) (by kernel_rfl) (fun _ _ _ h => h) (Or.inl ⟨by rfl, ?_⟩) (by first | assumption | exact hS (by decide)) ?_
     rotate_left 1
     · intro W hW; (try dsimp only at hW); (try obtain ⟨k0, k1, k2⟩ := hW); go_simp; (try with_reducible rfl)
     (try simp only [Act.put, List.setIfInBounds_toArray, List.set_cons_zero, List.set_cons_succ])
     refine Until.take (i := 1) (v := ?_) rfl (by kernel_rfl) (by kernel_rfl) (by kernel_rfl) (by kernel_rfl) (fun _ _ _ h => h) (Or.inl ⟨by rfl, ?_⟩) (by first | assumption | exact hS (by decide)) ?_
     rotate_left 1
     · intro W hW; (try dsimp only at hW); (try obtain ⟨k0, k1, k2⟩ := hW); go_simp; (try with_reducible rfl)
     (try simp only [Act.put, List.setIfInBounds_toArray, List.set_cons_zero, List.set_cons_succ])
     refine Until.take (i := 2) (v := ?_) rfl (by kernel_rfl) (by kernel_rfl) (by kernel_rfl) (by kernel_rfl) (fun _ _ _ h => h) (Or.inl ⟨by rfl, ?_⟩) (by first | assumption | exact hS (by decide)) ?_
     rotate_left 1
     · intro W hW; (try dsimp only at hW); (try obtain ⟨k0, k1, k2⟩ := hW); go_simp; (try with_reducible rfl)
     (try simp only [Act.put, List.setIfInBounds_toArray, List.set_cons_zero, List.set_cons_succ])
     refine Until.take (i := 3) (v := ?_) rfl (by kernel_rfl) (by kernel_rfl) (by kernel_rfl) (by kernel_rfl) (fun _ _ _ h => h) (Or.inl ⟨by rfl, ?_⟩) (by first | assumption | exact hS (by decide)) ?_
     rotate_left 1
     · intro W hW; (try dsimp only at hW); (try obtain ⟨k0, k1, k2⟩ := hW); go_simp; (try with_reducible rfl)
     (try simp only [Act.put, List.setIfInBounds_toArray, List.set_cons_zero, List.set_cons_succ])
     refine Until.take (i := 4) (v := ?_) rfl (by kernel_rfl) (by kernel_rfl) (by kernel_rfl) (by kernel_rfl) (fun _ _ _ h => h) (Or.inl ⟨by rfl, ?_⟩) (by first | assumption | exact hS (by decide)) ?_
     rotate_left 1
     · intro W hW; (try dsimp only at hW); (try obtain ⟨k0, k1, k2⟩ := hW); go_simp; (try with_reducible rfl)
     (try simp only [Act.put, List.setIfInBounds_toArray, List.set_cons_zero, List.set_cons_succ])
     refine Until.take (i := 5) (v := ?_) rfl (by kernel_rfl) (by kernel_rfl) (by kernel_rfl) (by kernel_rfl) (fun _ _ _ h => h) (Or.inl ⟨by rfl, ?_⟩) (by first | assumption | exact hS (by decide)) ?_
     rotate_left 1
     · intro W hW; (try dsimp only at hW); (try obtain ⟨k0, k1, k2⟩ := hW); go_simp; (try with_reducible rfl)
     (try simp only [Act.put, List.setIfInBounds_toArray, List.set_cons_zero, List.set_cons_succ])
     refine Until.take (i := 6) (v := ?_) rfl (by kernel_rfl) (by kernel_rfl) (by kernel_rfl) (by kernel_rfl) (fun _ _ _ h => h) (Or.inl ⟨by rfl, ?_⟩) (by first | assumption | exact hS (by decide)) ?_
     rotate_left 1
     · intro W hW; (try dsimp only at hW); (try obtain ⟨k0, k1, k2⟩ := hW); go_simp; (try with_reducible rfl)
     (try simp only [Act.put, List.setIfInBounds_toArray, List.set_cons_zero, List.set_cons_succ])
     refine Until.take (i := 7) (v := ?_) rfl (by kernel_rfl) (by kernel_rfl) (by kernel_rfl) (by kernel_rfl) (fun _ _ _ h => h) (Or.inl ⟨by rfl, ?_⟩) (by first | assumption | exact hS (by decide)) ?_
     rotate_left 1
     · intro W hW; (try dsimp only at hW); (try obtain ⟨k0, k1, k2⟩ := hW); go_simp; (try with_reducible rfl)
     (try simp only [Act.put, List.setIfInBounds_toArray, List.set_cons_zero, List.set_cons_succ])
     refine Until.take (i := 8) (v := ?_) rfl (by kernel_rfl) (by kernel_rfl) (by kernel_rfl) (by kernel_rfl) (fun _ _ _ h => h) (Or.inl ⟨by rfl, ?_⟩) (by first | assumption | exact hS (by decide)) ?_
     rotate_left 1
     · intro W hW; (try dsimp only at hW); (try obtain ⟨k0, k1, k2⟩ := hW); go_simp; (try with_reducible rfl)
     (try simp only [Act.put, List.setIfInBounds_toArray, List.set_cons_zero, List.set_cons_succ])
     refine Until.take (i := 9) (v := ?_) rfl (by kernel_rfl) (by kernel_rfl) (by kernel_rfl) (by kernel_rfl) (fun _ _ _ h => h) (Or.inl ⟨by rfl, ?_⟩) (by first | assumption | exact hS (by decide)) ?_
     rotate_left 1
     · intro W hW; (try dsimp only at hW); (try obtain ⟨k0, k1, k2⟩ := hW); go_simp; (try with_reducible rfl)
     (try simp only [Act.put, List.setIfInBounds_toArray, List.set_cons_zero, List.set_cons_succ])
     refine Until.take (i := 10) (v := ?_) rfl (by kernel_rfl) (by kernel_rfl) (by kernel_rfl) (by kernel_rfl) (fun _ _ _ h => h) (Or.inl ⟨by rfl, ?_⟩) (by first | assumption | exact hS (by decide)) ?_
     rotate_left 1
     · intro W hW; (try dsimp only at hW); (try obtain ⟨k0, k1, k2⟩ := hW); go_simp; (try with_reducible rfl)
     (try simp only [Act.put, List.setIfInBounds_toArray, List.set_cons_zero, List.set_cons_succ])
     refine Until.take (i := 11) (v := ?_) rfl (by kernel_rfl) (by kernel_rfl) (by kernel_rfl) (by kernel_rfl) (fun _ _ _ h => h) (Or.inl ⟨by rfl, ?_⟩) (by first | assumption | exact hS (by decide)) ?_
     rotate_left 1
     · intro W hW; (try dsimp only at hW); (try obtain ⟨k0, k1, k2⟩ := hW); go_simp; (try with_reducible rfl)
     (try simp only [Act.put, List.setIfInBounds_toArray, List.set_cons_zero, List.set_cons_succ])
     refine Until.take (i := 12) (v := ?_) rfl (by kernel_rfl) (by kernel_rfl) (by kernel_rfl) (by kernel_rfl) (fun _ _ _ h => h) (Or.inl ⟨by rfl, ?_⟩) (by first | assumption | exact hS (by decide)) ?_
     rotate_left 1
     · intro W hW; (try dsimp only at hW); (try obtain ⟨k0, k1, k2⟩ := hW); go_simp; (try with_reducible rfl)
     (try simp only [Act.put, List.setIfInBounds_toArray, List.set_cons_zero, List.set_cons_succ])
     refine Until.take (i := 13) (v := ?_) rfl (by kernel_rfl) (by kernel_rfl) (by kernel_rfl) (by kernel_rfl) (fun _ _ _ h => h) (Or.inl ⟨by rfl, ?_⟩) (by first | assumption | exact hS (by decide)) ?_
     rotate_left 1
     · intro W hW; (try dsimp only at hW); (try obtain ⟨k0, k1, k2⟩ := hW); go_simp; (try with_reducible rfl)
     (try simp only [Act.put, List.setIfInBounds_toArray, List.set_cons_zero, List.set_cons_succ])
     refine Until.take (i := 14) (v := ?_) rfl (by kernel_rfl) (by kernel_rfl) (by kernel_rfl) (by kernel_rfl) (fun _ _ _ h => h) (Or.inl ⟨by rfl, ?_⟩) (by first | assumption | exact hS (by decide)) ?_
     rotate_left 1
     · intro W hW; (try dsimp only at hW); (try obtain ⟨k0, k1, k2⟩ := hW); go_simp; (try with_reducible rfl)
     (try simp only [Act.put, List.setIfInBounds_toArray, List.set_cons_zero, List.set_cons_succ])
     refine Until.only (i := 15) rfl (by kernel_rfl) (fun K hK => ?_)
     refine Kd.R_append_rows_step k40 (w0 := w) w.heap.size rfl (.const (.slice none 0 0)) (.tmp 41) 38 40 (.agg #[.int .i64 0, .int .i64 0]) 16 rfl Try.underlying38 info40 rfl (by decide) (by omega) (.slice none 0 0) [] l A0 l.length c0 (fun k => some k ≠ (Value.slice A2v rows.length c2v).ownBlock) (fun _ => False) rfl rfl (Kd.R_nil _ _ _ _ _) (Kd.C_drew (Kd.C_below HC0.out hbw)) (fun _ _ h => h) (fun _ h => h.elim) hown2.out (below_drew hbw) (below_drew hbw).size (by simp; omega) ?_
     intro v3 w3 ho hb hg hat
     rw [List.nil_append] at ho
     obtain ⟨B3, d3, rfl⟩ := Kd.R_slice ho
     have hbq : Below wr.heap.size wr w3 := ⟨hg.os, hg.tape, hg.output, hg.size, fun k hk => hg.block k hk (by simp [Value.ownBlock])⟩
     have HO := Aside0.mk ho
     have HB3 := Aside0.mk hb
     clear ho hb hg hat
     refine hK.out _ _ (fun _ => ⟨pw_cell_below hbq hc2, pw_cell_below hbq hy2, pw_cell_below hbq hx0⟩) (fun hS => ?_)
     clear hK
     (try simp only [Act.put, List.setIfInBounds_toArray, List.set_cons_zero, List.set_cons_succ])
     refine Until.only (i := 16) rfl (by kernel_rfl) (fun K hK => ?_)
     go_simp
     refine hK.out _ _ (fun _ => ⟨pw_cell_below (below_alloc (Below.refl _ _) _) (pw_cell_below hbq hc2), pw_cell_below (below_alloc (Below.refl _ _) _) (pw_cell_below hbq hy2), pw_cell_below (below_alloc (Below.refl _ _) _) (pw_cell_below hbq hx0)⟩) (fun hS => ?_)
     clear hK
     (try simp only [Act.put, List.setIfInBounds_toArray, List.set_cons_zero, List.set_cons_succ])
     refine Until.only (i := 17) rfl (by kernel_rfl) (fun K hK => ?_)
     refine Kd.R_append_step (Kd.slice 40 k40) (w0 := w) w.heap.size rfl (.tmp 28) (.tmp 43) 27 38 (.slice none 0 0) 24 rfl Try.underlying27 info38 rfl (by decide) (by omega) (.slice A2v rows.length c2v) rows l [.slice B3 l.length d3] (fun _ => True) (fun k => some k ≠ (Value.slice A2v rows.length c2v).ownBlock) rfl rfl ⟨_, rfl, HO.out⟩ (fun k hk => ⟨trivial, hk⟩) (fun _ _ => trivial) (Kd.R_below HM.out.r2 hbq) HB3.out HB3.out.size (by have := HLR.out; omega) ?_
     intro v4 w4 ho hb hg hat
     obtain ⟨B4, d4, rfl⟩ := Kd.R_slice ho
     rw [show (rows ++ [l]).length = rows.length + 1 by simp] at ho ⊢
     have hbx4 := blk_grown ((hbq.block _ (blk_lt HM.out.bx)).trans HM.out.bx) hg (Kd.R_ne HM.out.r2 HM.out.bx (by decide))
     have hin4 := blk_grown ((hbq.block _ (blk_lt HM.out.inb)).trans HM.out.inb) hg (Kd.R_ne HM.out.r2 HM.out.inb (by decide))
     obtain ⟨kc0, kc1, kc2, kf0, kf1, kf2⟩ := box3 hbx4
     have HM5 := Aside0.mk (cut_step HM.out hbq ho hb hg)
     rw [← HTK.out] at HM5
     refine hK.out _ _ (fun _ => ⟨kc2, (blk_cell hin4 2).trans rfl, pw_cell_below hb HX0.out⟩) (fun hS => ?_)
     clear hK ho hb hg hat
     (try simp only [Act.put, List.setIfInBounds_toArray, List.set_cons_zero, List.set_cons_succ])
     refine Until.take (i := 18) (v := ?_) rfl (by kernel_rfl) (by kernel_rfl) (by kernel_rfl) (by kernel_rfl) (fun _ _ _ h => h) (Or.inl ⟨by rfl, ?_⟩) (by first | assumption | exact hS (by decide)) ?_
     rotate_left 1
     · intro W hW; (try dsimp only at hW); (try obtain ⟨k0, k1, k2⟩ := hW); go_simp; (try with_reducible rfl)
     (try simp only [Act.put, List.setIfInBounds_toArray, List.set_cons_zero, List.set_cons_succ])
     refine Until.only (i := 19) rfl (by kernel_rfl) (fun K hK => ?_)
     go_simp
     refine hK.out _ _ (fun h => absurd h (by decide)) (fun hS => ?_)
     clear hK
     refine Until.done (by kernel_rfl) ?_ _
     clear hbx4 hin4 kc0 kc1 kc2 kf0 kf1 kf2 HO HB3 hbq hc0 hc1 hc2 hf0 hf1 hf2 hy2 hx0 HX0 hbw hbx hown2 HC0 HLR HTK hS
     generalize (w4.setCell ⟨b, 2, none⟩ (.slice B4 (rows.length + 1) d4)) = w5 at HM5 ⊢
     have hwr : IntKind.i64.wrap (i + 1) = i + 1 := IntWalk.i64_in _ (by omega)
     go_wp2
     go_roundg (hops.length - (i + 1).toNat)
     case measure => omega
     case rel => exact ⟨i + 1, _, by omega, by omega, by omega, Nat.le_refl _, rfl, HM5⟩
   · have HQ := Aside0.mk (cutH_end hops i hi0 hi1 hi5 hlt)
     rw [HQ.out] at HM
     obtain ⟨gc0, gc1, gc2, gf0, gf1, gf2⟩ := box3 HM.out.res
     clear hc2
     have hc2 := (box3 HM.out.bx).2.2.1
     have b1 := blk_put HM.out.res 0 (.int .u64 ep) rfl
     have b2 := blk_put b1 1 (.slice B1 u1.length d1) rfl
     have b3 := blk_put b2 2 (.slice A2v (cutH hops).length c2v) rfl
     have HR1 := Aside0.mk ((Kd.R_set (Kd.R_set (Kd.R_set HM.out.r1 HM.out.res (by decide) 0 (.int .u64 ep)) b1 (by decide) 1 (.slice B1 u1.length d1)) b2 (by decide) 2 (.slice A2v (cutH hops).length c2v)))
     have HR2 := Aside0.mk ((Kd.R_set (Kd.R_set (Kd.R_set HM.out.r2 HM.out.res (by decide) 0 (.int .u64 ep)) b1 (by decide) 1 (.slice B1 u1.length d1)) b2 (by decide) 2 (.slice A2v (cutH hops).length c2v)))
     have HBB := Aside0.mk (below_set (below_set (below_set HM.out.bel (show w.heap.size ≤ w.heap.size + 1 by omega) (j := 0) (v := .int .u64 ep)) (show w.heap.size ≤ w.heap.size + 1 by omega) (j := 1) (v := .slice B1 u1.length d1)) (show w.heap.size ≤ w.heap.size + 1 by omega) (j := 2) (v := .slice A2v (cutH hops).length c2v))
     obtain ⟨rc0, rc1, rc2, rf0, rf1, rf2⟩ := box3 b3
     have HB3 := Aside0.mk b3
     clear b1 b2 b3
     have hfin : Aside0 (∃ v1 v2 : Value, Ending.returned (.agg #[.int .u64 ep, .slice B1 u1.length d1, .slice A2v (cutH hops).length c2v]) = .returned (.agg #[.int .u64 ep, v1, v2]) ∧ Kd.R Kd.bool 4 (((wr.setCell ⟨w.heap.size + 1, 0, none⟩ (.int .u64 ep)).setCell ⟨w.heap.size + 1, 1, none⟩ (.slice B1 u1.length d1)).setCell ⟨w.heap.size + 1, 2, none⟩ (.slice A2v (cutH hops).length c2v)) w.heap.size (fun _ => True) v1 u1 ∧ Kd.R (Kd.slice 40 k40) 38 (((wr.setCell ⟨w.heap.size + 1, 0, none⟩ (.int .u64 ep)).setCell ⟨w.heap.size + 1, 1, none⟩ (.slice B1 u1.length d1)).setCell ⟨w.heap.size + 1, 2, none⟩ (.slice A2v (cutH hops).length c2v)) w.heap.size (fun _ => True) v2 (cutH hops) ∧ Below w.heap.size w (((wr.setCell ⟨w.heap.size + 1, 0, none⟩ (.int .u64 ep)).setCell ⟨w.heap.size + 1, 1, none⟩ (.slice B1 u1.length d1)).setCell ⟨w.heap.size + 1, 2, none⟩ (.slice A2v (cutH hops).length c2v))) := ⟨_, _, rfl, HR1.out, HR2.out, HBB.out⟩
     clear HR1 HR2 HBB HQ HM
     by_cases hlt2 : i < hops.length
     · have hl5 : decide (i < 5) = false := decide_eq_false (by omega)
       clear hlt
       go_wp2_with fail
       refine bodyPost_ret (results_cell_row rfl _ _ (w.heap.size + 1) 29 #[.int .u64 ep, .slice B1 u1.length d1, .slice A2v (cutH hops).length c2v] (0, 0) _ rfl HB3.out Try.underlying29 rfl (by kernel_rfl)) rfl ?_
       rw [HU1.out]
       exact hfin.out
     · clear hlt
       go_wp2_with fail
       refine bodyPost_ret (results_cell_row rfl _ _ (w.heap.size + 1) 29 #[.int .u64 ep, .slice B1 u1.length d1, .slice A2v (cutH hops).length c2v] (0, 0) _ rfl HB3.out Try.underlying29 rfl (by kernel_rfl)) rfl ?_
       rw [HU1.out]
       exact hfin.out
 go_region_held3 (fun W => W.cell? ⟨w.heap.size, 0, none⟩ = some (.int .u64 ep) ∧ W.cell? ⟨w.heap.size, 1, none⟩ = some (.slice A1 up.length c1) ∧ W.heap[w.heap.size]? = some (.cells #[.int .u64 ep, .slice A1 up.length c1, .slice A2 hops.length c2] 29 (0, 0)) ∧ W.heap[w.heap.size + 1]? = some (.cells #[.int .u64 0, .slice none 0 0, .slice none 0 0] 29 (0, 0)) ∧ Below w.heap.size w W)
  (first
   | assumption
   | exact ⟨(blk_cell hB1 0).trans rfl, (blk_cell hB1 1).trans rfl, hB1, hB2, below_drew hb0⟩
   | ((with_reducible show World.cell? w2 _ = _ ∧ _); have h := ‹_ ∧ _ ∧ _ ∧ _ ∧ _›; exact ⟨pw_cell_below hbq h.1, pw_cell_below hbq h.2.1, (hbq.block _ (blk_lt h.2.2.1)).trans h.2.2.1, (hbq.block _ (blk_lt h.2.2.2.1)).trans h.2.2.2.1, below_then h.2.2.2.2 h.2.2.2.2.size hbq⟩)
   | ((with_reducible show World.cell? (World.alloc _ _) _ = _ ∧ _); have h := ‹_ ∧ _ ∧ _ ∧ _ ∧ _›; exact ⟨pw_cell_below (below_alloc (Below.refl _ _) _) h.1, pw_cell_below (below_alloc (Below.refl _ _) _) h.2.1, (heap_alloc_old _ _ (blk_lt h.2.2.1)).trans h.2.2.1, (heap_alloc_old _ _ (blk_lt h.2.2.2.1)).trans h.2.2.2.1, below_alloc h.2.2.2.2 _⟩)
   | ((with_reducible show World.cell? (World.drew (World.alloc _ _)) _ = _ ∧ _); have h := ‹_ ∧ _ ∧ _ ∧ _ ∧ _›; exact ⟨pw_cell_below (below_alloc (Below.refl _ _) _) h.1, pw_cell_below (below_alloc (Below.refl _ _) _) h.2.1, (heap_alloc_old _ _ (blk_lt h.2.2.1)).trans h.2.2.1, (heap_alloc_old _ _ (blk_lt h.2.2.2.1)).trans h.2.2.2.1, below_alloc h.2.2.2.2 _⟩)
   | ((with_reducible show World.cell? (World.setCell _ _ _) _ = _ ∧ _); have h := ‹_ ∧ _ ∧ _ ∧ _ ∧ _›; have k : ∀ (B : Nat) (W : World), Below B W w2 → B ≤ w1.heap.size → Below B W (((w2.setCell ⟨w1.heap.size, 0, none⟩ (.int .u64 ep)).setCell ⟨w1.heap.size, 1, none⟩ (.slice B1 u1.length d1)).setCell ⟨w1.heap.size, 2, none⟩ (.slice none 0 0)) := fun B W k hB => ((k.setCell (p := ⟨w1.heap.size, 0, none⟩) hB _).setCell (p := ⟨w1.heap.size, 1, none⟩) hB _).setCell (p := ⟨w1.heap.size, 2, none⟩) hB _; have k0 := k w1.heap.size w2 (Below.refl _ _) (Nat.le_refl _); exact ⟨(k0.cell (show w.heap.size < w1.heap.size by omega)).trans h.1, (k0.cell (show w.heap.size < w1.heap.size by omega)).trans h.2.1, (k0.block _ (by omega)).trans h.2.2.1, (k0.block _ (by omega)).trans h.2.2.2.1, k _ _ h.2.2.2.2 (by omega)⟩)
   | ((with_reducible show World.cell? (World.alloc w2 _) _ = _ ∧ _); have h := ‹_ ∧ _ ∧ _ ∧ _ ∧ _›; have z1 := hbq.size; simp at z1; exact ⟨cell_swap (show w.heap.size < w2.heap.size by omega) h.1, cell_swap (show w.heap.size < w2.heap.size by omega) h.2.1, blk_swap (by omega) h.2.2.1, blk_swap (by omega) h.2.2.2.1, below_swap (by omega) h.2.2.2.2⟩))
  (first
   | (have h := ‹_ ∧ _ ∧ _ ∧ _ ∧ _›; refine Kd.R_append_rows_step Kd.bool (w0 := w) w.heap.size ?hw (.const (.slice none 0 0)) (.tmp 13) 26 4 (.bool false) 1 rfl Try.underlying26 info4 rfl (by decide) (by omega) (.slice none 0 0) [] u1 A1 u1.length c1 (fun _ => True) (fun _ => False) ?hs ?hx (Kd.R_nil _ _ _ _ _) (Kd.C_below hC1.out h.2.2.2.2) (fun _ _ h => h) (fun _ h => h.elim) (fun _ _ => trivial) h.2.2.2.2 h.2.2.2.2.size (by simp; omega) ?_; (case hw => rfl); (case hs => rfl); (case hx => rfl); intro v2 w2 ho hb hg hat; rw [List.nil_append] at ho; obtain ⟨B1, d1, rfl⟩ := Kd.R_slice ho; have hbq : Below _ _ w2 := ⟨hg.os, hg.tape, hg.output, hg.size, fun k hk => hg.block k hk (by simp [Value.ownBlock])⟩; have hbx := (hbq.block w1.heap.size (by simp)).trans (blk_new w1.drew _); obtain ⟨hc0, hc1, hc2, hf0, hf1, hf2⟩ := box3 hbx; have HO := Aside0.mk ho; clear ho hb hg hat h)
   | (have h := ‹_ ∧ _ ∧ _ ∧ _ ∧ _›; refine Kd.R_append_rows_step Kd.bool (w0 := w) w.heap.size ?hw (.const (.slice none 0 0)) (.tmp 13) 26 4 (.bool false) 1 rfl Try.underlying26 info4 rfl (by decide) (by omega) (.slice none 0 0) [] u1 A1 u1.length c1 (fun _ => True) (fun _ => False) ?hs ?hx (Kd.R_nil _ _ _ _ _) (Kd.C_below hC1.out h.2.2.2.2) (fun _ _ h => h) (fun _ h => h.elim) (fun _ _ => trivial) h.2.2.2.2 h.2.2.2.2.size (by simp; omega) ?_; (case hw => rfl); (case hs => rfl); (case hx => rfl); intro v2 w2 ho hb hg hat; rw [List.nil_append] at ho; obtain ⟨B1, d1, rfl⟩ := Kd.R_slice ho; have hbq : Below _ _ w2 := ⟨hg.os, hg.tape, hg.output, hg.size, fun k hk => hg.block k hk (by simp [Value.ownBlock])⟩; have HO := Aside0.mk ho; clear ho hb hg hat h))
 · have h := ‹_ ∧ _ ∧ _ ∧ _ ∧ _›
   have z1 := hbq.size
   simp at z1
   exact rest _ _ _ _ ⟨Kd.R_alloc HO.out _, Kd.R_nil _ _ _ _ _, blk_new _ _, h.2.2.1, h.2.2.2.1, by omega, h.2.2.2.2⟩
 · have h := ‹_ ∧ _ ∧ _ ∧ _ ∧ _›
   have z1 := hbq.size
   simp at z1
   have b1 := blk_put hbx 0 (.int .u64 ep) rfl
   have b2 := blk_put b1 1 (.slice B1 u1.length d1) rfl
   have b3 := blk_put b2 2 (.slice none 0 0) rfl
   exact rest _ _ _ _ ⟨Kd.R_set (Kd.R_set (Kd.R_set HO.out hbx (by decide) _ _) b1 (by decide) _ _) b2 (by decide) _ _, Kd.R_nil _ _ _ _ _, b3, h.2.2.1, h.2.2.2.1, by omega, h.2.2.2.2⟩
 · have h := ‹_ ∧ _ ∧ _ ∧ _ ∧ _›
   have z1 := hbq.size
   simp at z1
   have b1 := blk_put hbx 0 (.int .u64 ep) rfl
   have b2 := blk_put b1 1 (.slice B1 u1.length d1) rfl
   have b3 := blk_put b2 2 (.slice none 0 0) rfl
   exact rest _ _ _ _ ⟨Kd.R_set (Kd.R_set (Kd.R_set HO.out hbx (by decide) _ _) b1 (by decide) _ _) b2 (by decide) _ _, Kd.R_nil _ _ _ _ _, b3, h.2.2.1, h.2.2.2.1, by omega, h.2.2.2.2⟩
end Go.Proofs.Ytkkfpmgmicfkfaa.X
set_option linter.unusedVariables false
/- slices.IndexFunc, slices.ContainsFunc over edges; the closures of topo.Order. -/
namespace Go.Proofs.Ytkkfpmgmicfkfaa.X
open Go.RowKit Go.Proofs.YtkkfpmgmicfkfaaW.PrintWords Go.Proofs.YtkkfpmgmicfkfaaW.PrintLast Go.Proofs.YtkkfpmgmicfkfaaW.PrintMore Go.Proofs.Ytkkfpmgmicfkfaa
/-- What is asked of a predicate on edges. -/
def FnB (g : Nat) (lb : Array Value) (p : S40 → Bool) (w : World) : Prop :=
 ∀ (W : World) (x : S40), Below w.heap.size w W → Calls Try.prog g (#[.agg #[.int .i64 x.f0, .int .i64 x.f1]] ++ lb) W fun e w' => e = .returned (.bool (p x)) ∧ Below W.heap.size W w'
theorem any_step (l : List S40) (p : S40 → Bool) (i : Int) (h0 : 0 ≤ i) (h1 : i < l.length) (ha : (l.take i.toNat).any p = false) : (l.take (i + 1).toNat).any p = p (rd_T40 l i) := by
 rw [take_step l i h0 h1, List.any_append, ha]
 simp
set_option maxHeartbeats 8000000 in
set_option maxRecDepth 100000 in
theorem indexFunc_edge (A0 : Option Addr) (c0 : Nat) (l : List S40) (g : Nat) (lb : Array Value) (p : S40 → Bool) (w : World)
 (eg : ∀ args w, (callFunc g args).run Try.prog w = .ok (.enter g args) w) (hr : Kd.C k40 w A0 l.length l) (hf : FnB g lb p w) :
 Calls Try.prog 128 #[.slice A0 l.length c0, .func (.func g) #[] lb] w fun e w' => ∃ i : Int, e = .returned (.int .i64 i) ∧ Aside0 (decide (0 ≤ i) = l.any p) ∧ Below w.heap.size w w' := by
 have hl := hr.2.1
 have HR := Aside0.mk hr
 have HF := Aside0.mk hf
 clear hr hf
 go_enter Try.func128, Try.ntmps128
 go_wp2
 go_loopg [5, 8] l.length (fun gg v5 v8 W => ∃ i : Int, 0 ≤ i ∧ i ≤ l.length ∧ l.length - i.toNat ≤ gg ∧ v8 = .int .i64 i ∧ Aside0 (Below w.heap.size w W) ∧ Aside0 ((l.take i.toNat).any p = false))
 case atStart => exact ⟨0, by omega, by omega, by omega, rfl, ⟨Below.refl _ _⟩, ⟨rfl⟩⟩
 case round =>
  obtain ⟨i, h0, h1, hg, rfl, BW, HA⟩ := hrel
  by_cases hlt : i < l.length
  · obtain ⟨ad, e, hx0, hx1⟩ := at_T40 (Kd.C_below HR.out BW.out) i h0 hlt
    cases e
    have HS := Aside0.mk (any_step l p i h0 hlt HA.out)
    generalize hy : rd_T40 l i = x at hx0 hx1 HS
    replace hy := Aside0.mk hy
    cases hq : p x with
    | true =>
     go_wp2_with fail
     refine (HF.out _ x BW.out).mono ?_
     rintro e w1 ⟨rfl, hb1⟩
     have BW1 := Aside0.mk (below_then BW.out BW.out.size hb1)
     clear hb1
     rw [hq]
     go_wp2
     go_ret
     refine ⟨i, rfl, ⟨?_⟩, BW1.out⟩
     have h2 : l.any p = true := List.any_eq_true.2 ⟨x, by rw [← hy.out]; simp [rd_T40, List.getD_eq_getElem?_getD, show i.toNat < l.length by omega], hq⟩
     rw [h2]
     simpa using h0
    | false =>
     go_wp2_with fail
     refine (HF.out _ x BW.out).mono ?_
     rintro e w1 ⟨rfl, hb1⟩
     have BW1 := Aside0.mk (below_then BW.out BW.out.size hb1)
     clear hb1
     rw [hq]
     go_wp2
     go_roundg (l.length - (i + 1).toNat)
     case measure => omega
     case rel => exact ⟨i + 1, by omega, by omega, Nat.le_refl _, rfl, ⟨BW1.out⟩, ⟨HS.out.trans hq⟩⟩
  · have hi : i = l.length := by omega
    have HA' := Aside0.mk (show l.any p = false by have := HA.out; rwa [hi, Int.toNat_natCast, List.take_length] at this)
    clear HA hi
    go_wp2
    go_ret
    exact ⟨-1, rfl, ⟨by rw [HA'.out]; rfl⟩, BW.out⟩
theorem containsFunc_edge (A0 : Option Addr) (c0 : Nat) (l : List S40) (g : Nat) (lb : Array Value) (p : S40 → Bool) (w : World)
 (eg : ∀ args w, (callFunc g args).run Try.prog w = .ok (.enter g args) w) (hr : Kd.C k40 w A0 l.length l) (hf : FnB g lb p w) :
 Calls Try.prog 73 #[.slice A0 l.length c0, .func (.func g) #[] lb] w fun e w' => e = .returned (.bool (l.any p)) ∧ Below w.heap.size w w' := by
 have H := indexFunc_edge A0 c0 l g lb p w eg hr hf
 clear hr hf eg
 go_enter Try.func73, Try.ntmps73
 go_wp2_with fail
 refine H.mono ?_
 rintro e w1 ⟨i, rfl, hi, hb⟩
 go_wp2
 go_ret
 exact ⟨by rw [← hi.out]; rfl, hb⟩
theorem topo_order2 (x : S40) (w : World) :
 Calls Try.prog 69 #[.agg #[.int .i64 x.f0, .int .i64 x.f1]] w fun e w' => e = .returned (.int .i64 x.f0) ∧ Below w.heap.size w w' := by
 go_enter Try.func69, Try.ntmps69
 go_wp2
 go_ret
 exact ⟨rfl, below_alloc (Below.refl _ _) _⟩
theorem topo_order3 (x : S40) (w : World) :
 Calls Try.prog 70 #[.agg #[.int .i64 x.f0, .int .i64 x.f1]] w fun e w' => e = .returned (.int .i64 x.f1) ∧ Below w.heap.size w w' := by
 go_enter Try.func70, Try.ntmps70
 go_wp2
 go_ret
 exact ⟨rfl, below_alloc (Below.refl _ _) _⟩
theorem topo_order11 (g : Nat) (v : S40 → Int) (B : Nat) (x : S40) (w : World) (eg : ∀ args w, (callFunc g args).run Try.prog w = .ok (.enter g args) w)
 (hg : ∀ (W : World) (x : S40), Calls Try.prog g #[.agg #[.int .i64 x.f0, .int .i64 x.f1]] W fun e w' => e = .returned (.int .i64 (v x)) ∧ Below W.heap.size W w')
 (hc : w.cell? ⟨B, 0, none⟩ = some (.func (.func g) #[] #[])) (hB : B < w.heap.size) :
 Calls Try.prog 67 #[.agg #[.int .i64 x.f0, .int .i64 x.f1], .pointer (some ⟨B, 0, none⟩)] w fun e w' => e = .returned (.tuple #[.int .i64 (v x), .bool true]) ∧ Below w.heap.size w w' := by
 have hne : B ≠ w.heap.size := by omega
 have HG := Aside0.mk hg
 clear hg
 go_enter Try.func67, Try.ntmps67
 go_wp2_with fail
 refine (HG.out _ x).mono ?_
 rintro e w1 ⟨rfl, hb⟩
 have hB' := below_then (below_alloc (Below.refl w.heap.size w) _) (below_alloc (Below.refl w.heap.size w) _).size hb
 go_wp2
 go_ret2
 exact ⟨rfl, hB'⟩
theorem topo_order1 (g : Nat) (v : S40 → Int) (B : Nat) (A : Option Addr) (c : Nat) (l : List S40) (w : World) (eg : ∀ args w, (callFunc g args).run Try.prog w = .ok (.enter g args) w)
 (hg : ∀ (W : World) (x : S40), Calls Try.prog g #[.agg #[.int .i64 x.f0, .int .i64 x.f1]] W fun e w' => e = .returned (.int .i64 (v x)) ∧ Below W.heap.size W w')
 (hc : w.cell? ⟨B, 0, none⟩ = some (.slice A l.length c)) (hB : B < w.heap.size) (hl : Kd.C k40 w A l.length l) (hlen : l.length ≤ 8796093021952) :
 Calls Try.prog 65 #[.func (.func g) #[] #[], .pointer (some ⟨B, 0, none⟩)] w fun e w' => ∃ v0 : Value, e = .returned v0 ∧ Kd.R (Kd.int .i64) 3 w' w.heap.size (fun _ => True) v0 (TopoMath.rise (l.map v)) ∧ Below w.heap.size w w' := by
 have hne : B ≠ w.heap.size := by omega
 have HG := Aside0.mk hg
 have HL := Aside0.mk hl
 clear hg hl
 have eg2 : ∀ args w, (callFunc 67 args).run Try.prog w = .ok (.enter 67 args) w := enters_of Try.func67 (by kernel_rfl) rfl
 go_enter Try.func65, Try.ntmps65
 go_wp2_with fail
 have hb0 : Below w.heap.size w (w.alloc (Obj.cells #[Value.func (Fn.func g) #[] #[]] 105)) := below_alloc (Below.refl _ _) _
 refine (topo_ends A c l 67 #[.pointer (some ⟨w.heap.size, 0, none⟩)] v (fun _ => true) _ eg2 (Kd.C_below HL.out hb0) hlen (fun W x hW => ?_)).mono ?_
 · exact topo_order11 g v w.heap.size x W eg HG.out ((hW.cell (p := ⟨w.heap.size, 0, none⟩) (by simp)).trans (by go_simp)) (Nat.lt_of_lt_of_le (by simp) hW.size)
 rintro e w2 ⟨v0, rfl, hR, hb⟩
 have HR := Aside0.mk hR
 have HB := Aside0.mk (below_then hb0 hb0.size hb)
 have hsz := hb0.size
 clear hR hb hb0
 go_wp2
 go_ret
 exact ⟨v0, rfl, by have := Kd.R_lower HR.out hsz; rwa [List.filter_eq_self.2 (fun _ _ => rfl)] at this, HB.out⟩
theorem wrap_add1 {i : Int} {n : Nat} (h0 : 0 ≤ i) (h : i < n) (hn : n ≤ 9223372036854775807) : wrap64 (i + 1) = i + 1 := by
 unfold wrap64
 omega
theorem index_l0 (l : List Int) (x : Int) (hl : l.length ≤ 9223372036854775807) (d : Nat) : ∀ (k : Nat) (i : Int), 0 ≤ i → i ≤ l.length → (l.length : Int) - i = d → d < k →
 ∃ r, slices_Index_int_int.l0 k l x (l.length : Int) i = some r ∧ decide (r ≥ 0) = (l.drop i.toNat).contains x := by
 induction d with
 | zero =>
  intro k i h0 h1 hd hk
  obtain ⟨k, rfl⟩ : ∃ m, k = m + 1 := ⟨k - 1, by omega⟩
  refine ⟨-1, ?_, ?_⟩
  · simp only [slices_Index_int_int.l0]; rw [if_neg (by omega)]
  · rw [List.drop_of_length_le (by omega)]; rfl
 | succ d ih =>
  intro k i h0 h1 hd hk
  obtain ⟨k, rfl⟩ : ∃ m, k = m + 1 := ⟨k - 1, by omega⟩
  have hlt : i < (l.length : Int) := by omega
  have hdr : l.drop i.toNat = rd l i :: l.drop (i + 1).toNat := by
   have hi : i.toNat < l.length := by omega
   rw [List.drop_eq_getElem_cons hi, show (i + 1).toNat = i.toNat + 1 by omega]
   simp [rd, List.getD_eq_getElem?_getD, hi]
  by_cases he : x = rd l i
  · refine ⟨i, ?_, ?_⟩
    · simp only [slices_Index_int_int.l0]; rw [if_pos hlt, if_pos h0, if_pos hlt, if_pos he]
    · rw [hdr, he]
      simp [h0]
  · obtain ⟨r, hr, hd2⟩ := ih k (i + 1) (by omega) (by omega) (by omega) (by omega)
    refine ⟨r, ?_, ?_⟩
    · simp only [slices_Index_int_int.l0]; rw [if_pos hlt, if_pos h0, if_pos hlt, if_neg he, wrap_add1 h0 hlt hl]; exact hr
    · rw [hd2, hdr, List.contains_cons]
      simp [he]
theorem contains_f (l : List Int) (x : Int) (hl : l.length ≤ 9223372036854775807) : slices_Contains_int_int.f (l.length + 1) l x = some (l.contains x) := by
 obtain ⟨r, hr, hd⟩ := index_l0 l x hl l.length (l.length + 1) 0 (by omega) (by omega) (by omega) (by omega)
 unfold slices_Contains_int_int.f slices_Index_int_int.f
 rw [hr]
 simpa using hd
theorem contains_int (A : Option Addr) (c : Nat) (l : List Int) (x : Int) (w : World) (hr : Kd.C (Kd.int .i64) w A l.length l) (hc : l.length ≤ c) :
 Calls Try.prog 75 #[.slice A l.length c, .int .i64 x] w fun e w' => e = .returned (.bool (l.contains x)) ∧ Drawn0 w w' :=
 slices_Contains_int_int.calls (l.length + 1) A c l x _ w hr hc (contains_f l x hr.2.1)
theorem topo_order4 (n : Int) (B1 B2 : Nat) (A : Option Addr) (c : Nat) (left : List Int) (x : S40) (w : World)
 (h1 : w.cell? ⟨B1, 0, none⟩ = some (.int .i64 n)) (hB1 : B1 < w.heap.size) (h2 : w.cell? ⟨B2, 0, none⟩ = some (.slice A left.length c)) (hB2 : B2 < w.heap.size)
 (hl : Kd.C (Kd.int .i64) w A left.length left) (hc : left.length ≤ c) :
 Calls Try.prog 74 #[.agg #[.int .i64 x.f0, .int .i64 x.f1], .pointer (some ⟨B1, 0, none⟩), .pointer (some ⟨B2, 0, none⟩)] w fun e w' => e = .returned (.bool (x.f1 == n && left.contains x.f0)) ∧ Below w.heap.size w w' := by
 have hne1 : B1 ≠ w.heap.size := by omega
 have hne2 : B2 ≠ w.heap.size := by omega
 have HL := Aside0.mk hl
 have HC := Aside0.mk hc
 clear hl hc
 have hb0 : Below w.heap.size w (w.alloc (.cells #[.int .i64 x.f0, .int .i64 x.f1] 40)) := below_alloc (Below.refl _ _) _
 by_cases hq : (x.f1 == n) = true
 · have hq' : (x.f1 == n) = true := hq
   clear hq
   go_enter Try.func74, Try.ntmps74
   go_wp2_with fail
   refine (contains_int A c left x.f0 _ (Kd.C_below HL.out hb0) HC.out).mono ?_
   rintro e w1 ⟨rfl, hd⟩
   have HB := Aside0.mk (below_then hb0 hb0.size hd.below)
   clear hd hb0
   generalize hr : left.contains x.f0 = r
   have HR := Aside0.mk hr
   clear hr
   go_wp2
   go_ret
   exact ⟨by rw [hq', HR.out]; rfl, HB.out⟩
 · have hq' : (x.f1 == n) = false := by simpa using hq
   clear hq
   go_enter Try.func74, Try.ntmps74
   go_wp2
   go_ret
   exact ⟨by simp [hq'], hb0⟩
end Go.Proofs.Ytkkfpmgmicfkfaa.X
