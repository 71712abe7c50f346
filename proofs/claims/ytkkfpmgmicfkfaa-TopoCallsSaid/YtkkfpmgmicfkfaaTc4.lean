/- The law TopoCalls of braidworklaw19 answers true at every configuration, any two topologies, any flow and nodes, and leaves its arguments as they were. Conditions: none but those of the given row. -/
import Derived.Test.YtkkfpmgmicfkfaaWWords
import Derived.Test.YtkkfpmgmicfkfaaWLast
import Derived.Test.YtkkfpmgmicfkfaaWQPut
import Derived.Test.YtkkfpmgmicfkfaaWApart
import Derived.Test.YtkkfpmgmicfkfaaWArr
import Derived.Test.YtkkfpmgmicfkfaaWZeros
import Derived.Test.YtkkfpmgmicfkfaaWFoot
import Derived.Test.YtkkfpmgmicfkfaaWKept
import Derived.Test.YtkkfpmgmicfkfaaWShare
import Derived.Test.YtkkfpmgmicfkfaaWN
import Derived.Test.YtkkfpmgmicfkfaaWNEv
import Derived.Test.YtkkfpmgmicfkfaaWMore
import Derived.Test.YtkkfpmgmicfkfaaWTab
import Derived.Test.YtkkfpmgmicfkfaaWRepsOne
import Derived.Test.YtkkfpmgmicfkfaaWInv
import Derived.Test.YtkkfpmgmicfkfaaWGuard
import Derived.Test.YtkkfpmgmicfkfaaTc1
import Derived.Test.YtkkfpmgmicfkfaaTc2
import Derived.Test.YtkkfpmgmicfkfaaTc3
import Derived.Test.YtkkfpmgmicfkfaaRows
import Derived.Below
import Derived.Deep.Draws
import Derived.Deep.AppendLies
import Derived.Maps.AppendAt
import Derived.OwnWalk
import Derived.Laws.BytesArg
import Derived.Laws.MakeOwn
import Derived.Laws.OwnMore
import Derived.Deep.OwnRows
import Derived.Tactics
import Derived.Lib.ConvBytes
import Derived.Laws.Slices
import Derived.WalkKit
import Derived.KernelRfl
import Derived.RowKit3
import Derived.Deep.LoopGhost
import Derived.Deep.QuietTactic
import Derived.BigQuiet
import Derived.WideLaws
import Derived.Deep.DeepCutAuto
import Derived.Deep.CutBlock
import Derived.Deep.RegionHeld3
import Derived.Laws.Rows
import Derived.Lib.AppendStr
import Derived.ArgAppend
import Derived.Laws.IdiomCopy
import Derived.RowKit
import Derived.OrdersHeld
import Derived.Laws.BitsLemmas
import Derived.Laws.StructEq
import Derived.BigRegion
import Derived.Deep.Slices
import Derived.SizedLaws
import Derived.ChangeArms
import Derived.DataReads
import Derived.ProofKit
import Derived.OpenShut
import Derived.ShutString
import Derived.ChangeOld
set_option linter.unusedSimpArgs false
/- Printed by a program of this session's own (wip/tools/xprint.py) out of the translation: functions as plain Lean, and their walks. -/
namespace Go.Proofs.Ytkkfpmgmicfkfaa.X
open Go.RowKit Go.Proofs.YtkkfpmgmicfkfaaW.PrintWords Go.Proofs.YtkkfpmgmicfkfaaW.PrintLast Go.Proofs.YtkkfpmgmicfkfaaW.PrintMore
attribute [local go_sem] max2_int min2_int max_two min_two max_three min_three max_four min_four   -- for this text's walks alone
set_option linter.unusedVariables false
set_option linter.unusedSimpArgs false
/-! ### braidworkref19_Config: function 21 -/
mutual
def braidworkref19_Config.j0 : Nat → Bool → Int → List (S124) → Int → Int → Option (Bool)
 | 0, _, _, _, _, _ => none
 | k + 1, x46, x394000, x394001, x394002, x394003 => if x46 = true then (some false) else (braidworkref19_Config.l0 k 0 x394000 x394001 x394002 x394003)
def braidworkref19_Config.l0 : Nat → Int → Int → List (S124) → Int → Int → Option (Bool)
 | 0, _, _, _, _, _ => none
 | k + 1, x3, x394000, x394001, x394002, x394003 => if x3 < (x394001.length : Int) then (if 0 ≤ x3 then (if ((rd_T124 x394001 x3).f0) < 1 then (braidworkref19_Config.j2 k x3 true x394000 x394001 x394002 x394003 ((rd_T124 x394001 x3).f0) ((rd_T124 x394001 x3).f1) ((rd_T124 x394001 x3).f2) ((rd_T124 x394001 x3).f3)) else (if ((rd_T124 x394001 x3).f0) > 255 then (braidworkref19_Config.j2 k x3 true x394000 x394001 x394002 x394003 ((rd_T124 x394001 x3).f0) ((rd_T124 x394001 x3).f1) ((rd_T124 x394001 x3).f2) ((rd_T124 x394001 x3).f3)) else (if ((rd_T124 x394001 x3).f1) < 1 then (braidworkref19_Config.j2 k x3 true x394000 x394001 x394002 x394003 ((rd_T124 x394001 x3).f0) ((rd_T124 x394001 x3).f1) ((rd_T124 x394001 x3).f2) ((rd_T124 x394001 x3).f3)) else (if ((rd_T124 x394001 x3).f1) > 65535 then (braidworkref19_Config.j2 k x3 true x394000 x394001 x394002 x394003 ((rd_T124 x394001 x3).f0) ((rd_T124 x394001 x3).f1) ((rd_T124 x394001 x3).f2) ((rd_T124 x394001 x3).f3)) else (if (wrap64 (((rd_T124 x394001 x3).f0) * ((rd_T124 x394001 x3).f1))) < 5 then (braidworkref19_Config.j2 k x3 true x394000 x394001 x394002 x394003 ((rd_T124 x394001 x3).f0) ((rd_T124 x394001 x3).f1) ((rd_T124 x394001 x3).f2) ((rd_T124 x394001 x3).f3)) else (if ((rd_T124 x394001 x3).f2) < 0 then (braidworkref19_Config.j2 k x3 true x394000 x394001 x394002 x394003 ((rd_T124 x394001 x3).f0) ((rd_T124 x394001 x3).f1) ((rd_T124 x394001 x3).f2) ((rd_T124 x394001 x3).f3)) else (if ((rd_T124 x394001 x3).f2) ≥ x394000 then (braidworkref19_Config.j2 k x3 true x394000 x394001 x394002 x394003 ((rd_T124 x394001 x3).f0) ((rd_T124 x394001 x3).f1) ((rd_T124 x394001 x3).f2) ((rd_T124 x394001 x3).f3)) else (if (((rd_T124 x394001 x3).f3).length : Int) < 1 then (braidworkref19_Config.j2 k x3 true x394000 x394001 x394002 x394003 ((rd_T124 x394001 x3).f0) ((rd_T124 x394001 x3).f1) ((rd_T124 x394001 x3).f2) ((rd_T124 x394001 x3).f3)) else (braidworkref19_Config.j2 k x3 (decide ((((rd_T124 x394001 x3).f3).length : Int) > 8)) x394000 x394001 x394002 x394003 ((rd_T124 x394001 x3).f0) ((rd_T124 x394001 x3).f1) ((rd_T124 x394001 x3).f2) ((rd_T124 x394001 x3).f3)))))))))) else (none)) else (some true)
def braidworkref19_Config.j2 : Nat → Int → Bool → Int → List (S124) → Int → Int → Int → Int → Int → List Int → Option (Bool)
 | 0, _, _, _, _, _, _, _, _, _, _ => none
 | k + 1, x3, x108, x394000, x394001, x394002, x394003, x396000, x396001, x396002, x396003 => if x108 = true then (some false) else (braidworkref19_Config.l1 k x3 (-1) 0 x394000 x394001 x394002 x394003 x396000 x396001 x396002 x396003)
def braidworkref19_Config.l1 : Nat → Int → Int → Int → Int → List (S124) → Int → Int → Int → Int → Int → List Int → Option (Bool)
 | 0, _, _, _, _, _, _, _, _, _, _, _ => none
 | k + 1, x3, x5, x6, x394000, x394001, x394002, x394003, x396000, x396001, x396002, x396003 => if x6 < (x396003.length : Int) then (if 0 ≤ x6 then (if (rd x396003 x6) ≤ x5 then (some false) else (if (rd x396003 x6) ≥ x394000 then (some false) else (if (rd x396003 x6) = x396002 then (some false) else (braidworkref19_Config.l1 k x3 (rd x396003 x6) (wrap64 (x6 + 1)) x394000 x394001 x394002 x394003 x396000 x396001 x396002 x396003)))) else (none)) else (braidworkref19_Config.l0 k (wrap64 (x3 + 1)) x394000 x394001 x394002 x394003)
end
def braidworkref19_Config.f (k : Nat) (a0_0 : Int) (l0_1 : List (S124)) (a0_2 : Int) (a0_3 : Int) : Option (Bool) := if a0_0 < 1 then (braidworkref19_Config.j0 k true a0_0 l0_1 a0_2 a0_3) else (if a0_0 > 64 then (braidworkref19_Config.j0 k true a0_0 l0_1 a0_2 a0_3) else (if (l0_1.length : Int) < 1 then (braidworkref19_Config.j0 k true a0_0 l0_1 a0_2 a0_3) else (if (l0_1.length : Int) > 4 then (braidworkref19_Config.j0 k true a0_0 l0_1 a0_2 a0_3) else (if a0_2 < 1 then (braidworkref19_Config.j0 k true a0_0 l0_1 a0_2 a0_3) else (if a0_2 > 16 then (braidworkref19_Config.j0 k true a0_0 l0_1 a0_2 a0_3) else (if a0_3 < 1 then (braidworkref19_Config.j0 k true a0_0 l0_1 a0_2 a0_3) else (braidworkref19_Config.j0 k (decide (a0_3 > 64)) a0_0 l0_1 a0_2 a0_3)))))))
theorem braidworkref19_Config.mono_l : ∀ k, (∀ y0 y1 y2 y3 y4, LeO (braidworkref19_Config.j0 k y0 y1 y2 y3 y4) (braidworkref19_Config.j0 (k + 1) y0 y1 y2 y3 y4)) ∧ (∀ y0 y1 y2 y3 y4, LeO (braidworkref19_Config.l0 k y0 y1 y2 y3 y4) (braidworkref19_Config.l0 (k + 1) y0 y1 y2 y3 y4)) ∧ (∀ y0 y1 y2 y3 y4 y5 y6 y7 y8 y9, LeO (braidworkref19_Config.j2 k y0 y1 y2 y3 y4 y5 y6 y7 y8 y9) (braidworkref19_Config.j2 (k + 1) y0 y1 y2 y3 y4 y5 y6 y7 y8 y9)) ∧ (∀ y0 y1 y2 y3 y4 y5 y6 y7 y8 y9 y10, LeO (braidworkref19_Config.l1 k y0 y1 y2 y3 y4 y5 y6 y7 y8 y9 y10) (braidworkref19_Config.l1 (k + 1) y0 y1 y2 y3 y4 y5 y6 y7 y8 y9 y10))
 | 0 => ⟨fun _ _ _ _ _ r h => by simp [braidworkref19_Config.j0] at h, fun _ _ _ _ _ r h => by simp [braidworkref19_Config.l0] at h, fun _ _ _ _ _ _ _ _ _ _ r h => by simp [braidworkref19_Config.j2] at h, fun _ _ _ _ _ _ _ _ _ _ _ r h => by simp [braidworkref19_Config.l1] at h⟩
 | k + 1 => by
  obtain ⟨ih0, ih1, ih2, ih3⟩ := braidworkref19_Config.mono_l k
  refine ⟨?_, ?_, ?_, ?_⟩
  · intro y0 y1 y2 y3 y4
    unfold braidworkref19_Config.j0
    repeat' first
    | (with_reducible exact ih0 _ _ _ _ _)
    | (with_reducible exact ih1 _ _ _ _ _)
    | (with_reducible exact ih2 _ _ _ _ _ _ _ _ _ _)
    | (with_reducible exact ih3 _ _ _ _ _ _ _ _ _ _ _)
    | (with_reducible exact LeO.refl _)
    | (with_reducible exact LeO.none _)
    | (with_reducible refine LeO.ite ?_ ?_)
    | (with_reducible refine LeO.bind ?_ (fun _ => ?_))
    | exact ih0 _ _ _ _ _
    | exact ih1 _ _ _ _ _
    | exact ih2 _ _ _ _ _ _ _ _ _ _
    | exact ih3 _ _ _ _ _ _ _ _ _ _ _
    | exact LeO.none _
    | refine LeO.ite ?_ ?_
    | refine LeO.bind ?_ (fun _ => ?_)
  · intro y0 y1 y2 y3 y4
    unfold braidworkref19_Config.l0
    repeat' first
    | (with_reducible exact ih0 _ _ _ _ _)
    | (with_reducible exact ih1 _ _ _ _ _)
    | (with_reducible exact ih2 _ _ _ _ _ _ _ _ _ _)
    | (with_reducible exact ih3 _ _ _ _ _ _ _ _ _ _ _)
    | (with_reducible exact LeO.refl _)
    | (with_reducible exact LeO.none _)
    | (with_reducible refine LeO.ite ?_ ?_)
    | (with_reducible refine LeO.bind ?_ (fun _ => ?_))
    | exact ih0 _ _ _ _ _
    | exact ih1 _ _ _ _ _
    | exact ih2 _ _ _ _ _ _ _ _ _ _
    | exact ih3 _ _ _ _ _ _ _ _ _ _ _
    | exact LeO.none _
    | refine LeO.ite ?_ ?_
    | refine LeO.bind ?_ (fun _ => ?_)
  · intro y0 y1 y2 y3 y4 y5 y6 y7 y8 y9
    unfold braidworkref19_Config.j2
    repeat' first
    | (with_reducible exact ih0 _ _ _ _ _)
    | (with_reducible exact ih1 _ _ _ _ _)
    | (with_reducible exact ih2 _ _ _ _ _ _ _ _ _ _)
    | (with_reducible exact ih3 _ _ _ _ _ _ _ _ _ _ _)
    | (with_reducible exact LeO.refl _)
    | (with_reducible exact LeO.none _)
    | (with_reducible refine LeO.ite ?_ ?_)
    | (with_reducible refine LeO.bind ?_ (fun _ => ?_))
    | exact ih0 _ _ _ _ _
    | exact ih1 _ _ _ _ _
    | exact ih2 _ _ _ _ _ _ _ _ _ _
    | exact ih3 _ _ _ _ _ _ _ _ _ _ _
    | exact LeO.none _
    | refine LeO.ite ?_ ?_
    | refine LeO.bind ?_ (fun _ => ?_)
  · intro y0 y1 y2 y3 y4 y5 y6 y7 y8 y9 y10
    unfold braidworkref19_Config.l1
    repeat' first
    | (with_reducible exact ih0 _ _ _ _ _)
    | (with_reducible exact ih1 _ _ _ _ _)
    | (with_reducible exact ih2 _ _ _ _ _ _ _ _ _ _)
    | (with_reducible exact ih3 _ _ _ _ _ _ _ _ _ _ _)
    | (with_reducible exact LeO.refl _)
    | (with_reducible exact LeO.none _)
    | (with_reducible refine LeO.ite ?_ ?_)
    | (with_reducible refine LeO.bind ?_ (fun _ => ?_))
    | exact ih0 _ _ _ _ _
    | exact ih1 _ _ _ _ _
    | exact ih2 _ _ _ _ _ _ _ _ _ _
    | exact ih3 _ _ _ _ _ _ _ _ _ _ _
    | exact LeO.none _
    | refine LeO.ite ?_ ?_
    | refine LeO.bind ?_ (fun _ => ?_)
theorem braidworkref19_Config.mono : ∀ a0 a1 a2 a3 k, LeO (braidworkref19_Config.f k a0 a1 a2 a3) (braidworkref19_Config.f (k + 1) a0 a1 a2 a3) := by
 intro a0 a1 a2 a3 k
 obtain ⟨ih0, ih1, ih2, ih3⟩ := braidworkref19_Config.mono_l k
 unfold braidworkref19_Config.f
 repeat' first
  | (with_reducible exact ih0 _ _ _ _ _)
  | (with_reducible exact ih1 _ _ _ _ _)
  | (with_reducible exact ih2 _ _ _ _ _ _ _ _ _ _)
  | (with_reducible exact ih3 _ _ _ _ _ _ _ _ _ _ _)
  | (with_reducible exact LeO.refl _)
  | (with_reducible exact LeO.none _)
  | (with_reducible refine LeO.ite ?_ ?_)
  | (with_reducible refine LeO.bind ?_ (fun _ => ?_))
  | exact ih0 _ _ _ _ _
  | exact ih1 _ _ _ _ _
  | exact ih2 _ _ _ _ _ _ _ _ _ _
  | exact ih3 _ _ _ _ _ _ _ _ _ _ _
  | exact LeO.none _
  | refine LeO.ite ?_ ?_
  | refine LeO.bind ?_ (fun _ => ?_)
set_option maxHeartbeats 8000000 in
set_option maxRecDepth 100000 in
theorem braidworkref19_Config.calls (k : Nat) (a0_0 : Int) (A0_1 : Option Addr) (c0_1 : Nat) (l0_1 : List (S124)) (a0_2 : Int) (a0_3 : Int) (r : Bool) (w : World) (hr0_1 : Kd.C k124 w A0_1 l0_1.length l0_1) (hc0_1 : l0_1.length ≤ c0_1) (h : braidworkref19_Config.f k a0_0 l0_1 a0_2 a0_3 = some r) :
 Calls Try.prog 21 #[.agg #[.int .i64 a0_0, .slice A0_1 l0_1.length c0_1, .int .i64 a0_2, .int .i64 a0_3]] w fun e w' => e = .returned (.bool r) ∧ Below w.heap.size w w' := by
 have hu24 := Try.underlying24
 have hu124 := Try.underlying124
 have HR0_1 := Aside0.mk hr0_1
 have HC0_1 := Aside0.mk hc0_1
 clear hr0_1 hc0_1
 have HB := Aside0.mk (Below.refl w.heap.size w)
 have H : (if a0_0 < 1 then (braidworkref19_Config.j0 k true a0_0 l0_1 a0_2 a0_3) else (if a0_0 > 64 then (braidworkref19_Config.j0 k true a0_0 l0_1 a0_2 a0_3) else (if (l0_1.length : Int) < 1 then (braidworkref19_Config.j0 k true a0_0 l0_1 a0_2 a0_3) else (if (l0_1.length : Int) > 4 then (braidworkref19_Config.j0 k true a0_0 l0_1 a0_2 a0_3) else (if a0_2 < 1 then (braidworkref19_Config.j0 k true a0_0 l0_1 a0_2 a0_3) else (if a0_2 > 16 then (braidworkref19_Config.j0 k true a0_0 l0_1 a0_2 a0_3) else (if a0_3 < 1 then (braidworkref19_Config.j0 k true a0_0 l0_1 a0_2 a0_3) else (braidworkref19_Config.j0 k (decide (a0_3 > 64)) a0_0 l0_1 a0_2 a0_3)))))))) = some r := h
 clear h
 have HC2 := Aside0.mk H
 clear H
 go_enter Try.func21, Try.ntmps21
 go_upto_region 1 with (first | ((with_reducible refine gate_dst (N := 1) rfl ?_); (try (refine gate_guard (by rfl) ?_; dsimp only)); refine box_event ?hg (N := 1) ?hd (cs := #[.int .i64 a0_0, .slice A0_1 l0_1.length c0_1, .int .i64 a0_2, .int .i64 a0_3]) (t := 24) ?hr ?_; (case hd => rfl); (case hg => rfl); (case hr => first | (go_simp; done) | (go_simp; rfl)); intro gb393 hg w3 hbox hb; have n0_ := Aside0.mk (below_step (by repeat (first | (with_reducible first | exact HB.out | apply below_alloc | apply pw_below_drewN | apply below_drew1) | exact HB.out)) hb); have n1_ := Aside0.mk (hbox); have n2_ := Aside0.mk ((by rw [hg]; exact (below_size (by repeat (first | (with_reducible first | exact HB.out | apply below_alloc | apply pw_below_drewN | apply below_drew1) | exact HB.out))) : w.heap.size ≤ gb393)); have n3_ := Aside0.mk ((by rw [hg]; exact (below_size (by repeat (first | (with_reducible first | exact HB.out | apply below_alloc | apply pw_below_drewN | apply below_drew1) | exact HB.out))) : w.heap.size ≤ gb393)); clear HB; have HB := n0_; have BK393 := n1_; have GW393 := n2_; have GE393 := n3_; clear n0_ n1_ n2_ n3_; clear hb hbox hg))
 repeat (go_quiet (first | ((with_reducible refine gate_dst (N := 1) rfl ?_); (try (refine gate_guard (by rfl) ?_; dsimp only)); refine box_event ?hg (N := 1) ?hd (cs := #[.int .i64 a0_0, .slice A0_1 l0_1.length c0_1, .int .i64 a0_2, .int .i64 a0_3]) (t := 24) ?hr ?_; (case hd => rfl); (case hg => rfl); (case hr => first | (go_simp; done) | (go_simp; rfl)); intro gb393 hg w3 hbox hb; have n0_ := Aside0.mk (below_step (by repeat (first | (with_reducible first | exact HB.out | apply below_alloc | apply pw_below_drewN | apply below_drew1) | exact HB.out)) hb); have n1_ := Aside0.mk (hbox); have n2_ := Aside0.mk ((by rw [hg]; exact (below_size (by repeat (first | (with_reducible first | exact HB.out | apply below_alloc | apply pw_below_drewN | apply below_drew1) | exact HB.out))) : w.heap.size ≤ gb393)); have n3_ := Aside0.mk ((by rw [hg]; exact (below_size (by repeat (first | (with_reducible first | exact HB.out | apply below_alloc | apply pw_below_drewN | apply below_drew1) | exact HB.out))) : w.heap.size ≤ gb393)); clear HB; have HB := n0_; have BK393 := n1_; have GW393 := n2_; have GE393 := n3_; clear n0_ n1_ n2_ n3_; clear hb hbox hg)); go_upto_region 1 with (first | ((with_reducible refine gate_dst (N := 1) rfl ?_); (try (refine gate_guard (by rfl) ?_; dsimp only)); refine box_event ?hg (N := 1) ?hd (cs := #[.int .i64 a0_0, .slice A0_1 l0_1.length c0_1, .int .i64 a0_2, .int .i64 a0_3]) (t := 24) ?hr ?_; (case hd => rfl); (case hg => rfl); (case hr => first | (go_simp; done) | (go_simp; rfl)); intro gb393 hg w3 hbox hb; have n0_ := Aside0.mk (below_step (by repeat (first | (with_reducible first | exact HB.out | apply below_alloc | apply pw_below_drewN | apply below_drew1) | exact HB.out)) hb); have n1_ := Aside0.mk (hbox); have n2_ := Aside0.mk ((by rw [hg]; exact (below_size (by repeat (first | (with_reducible first | exact HB.out | apply below_alloc | apply pw_below_drewN | apply below_drew1) | exact HB.out))) : w.heap.size ≤ gb393)); have n3_ := Aside0.mk ((by rw [hg]; exact (below_size (by repeat (first | (with_reducible first | exact HB.out | apply below_alloc | apply pw_below_drewN | apply below_drew1) | exact HB.out))) : w.heap.size ≤ gb393)); clear HB; have HB := n0_; have BK393 := n1_; have GW393 := n2_; have GE393 := n3_; clear n0_ n1_ n2_ n3_; clear hb hbox hg)))
 (try simp only [Act.put, List.setIfInBounds_toArray, List.set_cons_zero, List.set_cons_succ])
 go_cut [46] (fun v46 wc => ∃ (kq : Nat) (x46_1 : Bool), v46 = .bool x46_1 ∧ Aside0 (braidworkref19_Config.j0 kq x46_1 a0_0 l0_1 a0_2 a0_3 = some r) ∧ Aside0 (kq ≤ k) ∧ Aside0 (wc.heap[gb393]? = some (.cells #[.int .i64 a0_0, (.slice A0_1 l0_1.length c0_1), .int .i64 a0_2, .int .i64 a0_3] 24 (0, 0))) ∧ Aside0 (Below w.heap.size w wc))
 case first =>
  have H := HC2.out
  clear HC2
  by_cases c4 : a0_0 < 1
  · rw [if_pos c4] at H
    have c4b0 : decide (a0_0 < 1) = true := decide_eq_true c4
    clear c4
    (first | rw [c4b0] | (simp only [i64_w, i32_w]; rw [c4b0]) | skip)
    have H' := Aside0.mk H
    clear H
    have hcz5_0 : w3.cell? ⟨gb393, 0, none⟩ = some (.int .i64 a0_0) := (blk_cell BK393.out 0).trans rfl
    have hcz5_1 : w3.cell? ⟨gb393, 1, none⟩ = some (.slice A0_1 l0_1.length c0_1) := (blk_cell BK393.out 1).trans rfl
    have hcz5_2 : w3.cell? ⟨gb393, 2, none⟩ = some (.int .i64 a0_2) := (blk_cell BK393.out 2).trans rfl
    have hcz5_3 : w3.cell? ⟨gb393, 3, none⟩ = some (.int .i64 a0_3) := (blk_cell BK393.out 3).trans rfl
    have hfz5_0 := blk_frozen BK393.out 0
    have hfz5_1 := blk_frozen BK393.out 1
    have hfz5_2 := blk_frozen BK393.out 2
    have hfz5_3 := blk_frozen BK393.out 3
    go_wp2
    repeat (go_quiet (fail); try go_wp2)
    go_meet
    case rel => exact ⟨_, (true), (by first | rfl | (simp; done) | (simp [*]; done)), H', ⟨by first | omega | exact Nat.le_refl _⟩, ⟨by (with_reducible repeat (first | refine blk_drewN ?_ _ | refine blk_drew ?_ | refine blk_alloc ?_ _)); exact BK393.out⟩, ⟨by repeat (first | (with_reducible first | exact HB.out | apply below_alloc | apply pw_below_drewN | apply below_drew1 | refine below_set ?_ GE393.out) | exact HB.out)⟩⟩
  · rw [if_neg c4] at H
    have c4b0 : decide (a0_0 < 1) = false := decide_eq_false c4
    clear c4
    (first | rw [c4b0] | (simp only [i64_w, i32_w]; rw [c4b0]) | skip)
    by_cases c6 : a0_0 > 64
    · rw [if_pos c6] at H
      have c6b0 : decide (64 < a0_0) = true := decide_eq_true c6
      clear c6
      have H' := Aside0.mk H
      clear H
      have hcz7_0 : w3.cell? ⟨gb393, 0, none⟩ = some (.int .i64 a0_0) := (blk_cell BK393.out 0).trans rfl
      have hcz7_1 : w3.cell? ⟨gb393, 1, none⟩ = some (.slice A0_1 l0_1.length c0_1) := (blk_cell BK393.out 1).trans rfl
      have hcz7_2 : w3.cell? ⟨gb393, 2, none⟩ = some (.int .i64 a0_2) := (blk_cell BK393.out 2).trans rfl
      have hcz7_3 : w3.cell? ⟨gb393, 3, none⟩ = some (.int .i64 a0_3) := (blk_cell BK393.out 3).trans rfl
      have hfz7_0 := blk_frozen BK393.out 0
      have hfz7_1 := blk_frozen BK393.out 1
      have hfz7_2 := blk_frozen BK393.out 2
      have hfz7_3 := blk_frozen BK393.out 3
      go_wp2
      repeat (go_quiet (fail); try go_wp2)
      go_meet
      case rel => exact ⟨_, (true), (by first | rfl | (simp; done) | (simp [*]; done)), H', ⟨by first | omega | exact Nat.le_refl _⟩, ⟨by (with_reducible repeat (first | refine blk_drewN ?_ _ | refine blk_drew ?_ | refine blk_alloc ?_ _)); exact BK393.out⟩, ⟨by repeat (first | (with_reducible first | exact HB.out | apply below_alloc | apply pw_below_drewN | apply below_drew1 | refine below_set ?_ GE393.out) | exact HB.out)⟩⟩
    · rw [if_neg c6] at H
      have c6b0 : decide (64 < a0_0) = false := decide_eq_false c6
      clear c6
      by_cases c8 : (l0_1.length : Int) < 1
      · rw [if_pos c8] at H
        have c8b0 : decide ((l0_1.length : Int) < 1) = true := decide_eq_true c8
        have c8b1 : decide (l0_1.length < 1) = true := decide_eq_true (by omega)
        clear c8
        have H' := Aside0.mk H
        clear H
        have hcz9_0 : w3.cell? ⟨gb393, 0, none⟩ = some (.int .i64 a0_0) := (blk_cell BK393.out 0).trans rfl
        have hcz9_1 : w3.cell? ⟨gb393, 1, none⟩ = some (.slice A0_1 l0_1.length c0_1) := (blk_cell BK393.out 1).trans rfl
        have hcz9_2 : w3.cell? ⟨gb393, 2, none⟩ = some (.int .i64 a0_2) := (blk_cell BK393.out 2).trans rfl
        have hcz9_3 : w3.cell? ⟨gb393, 3, none⟩ = some (.int .i64 a0_3) := (blk_cell BK393.out 3).trans rfl
        have hfz9_0 := blk_frozen BK393.out 0
        have hfz9_1 := blk_frozen BK393.out 1
        have hfz9_2 := blk_frozen BK393.out 2
        have hfz9_3 := blk_frozen BK393.out 3
        go_wp2
        repeat (go_quiet (fail); try go_wp2)
        go_meet
        case rel => exact ⟨_, (true), (by first | rfl | (simp; done) | (simp [*]; done)), H', ⟨by first | omega | exact Nat.le_refl _⟩, ⟨by (with_reducible repeat (first | refine blk_drewN ?_ _ | refine blk_drew ?_ | refine blk_alloc ?_ _)); exact BK393.out⟩, ⟨by repeat (first | (with_reducible first | exact HB.out | apply below_alloc | apply pw_below_drewN | apply below_drew1 | refine below_set ?_ GE393.out) | exact HB.out)⟩⟩
      · rw [if_neg c8] at H
        have c8b0 : decide ((l0_1.length : Int) < 1) = false := decide_eq_false c8
        have c8b1 : decide (l0_1.length < 1) = false := decide_eq_false (by omega)
        clear c8
        by_cases c10 : (l0_1.length : Int) > 4
        · rw [if_pos c10] at H
          have c10b0 : decide (4 < (l0_1.length : Int)) = true := decide_eq_true c10
          have c10b1 : decide (4 < l0_1.length) = true := decide_eq_true (by omega)
          clear c10
          have H' := Aside0.mk H
          clear H
          have hcz11_0 : w3.cell? ⟨gb393, 0, none⟩ = some (.int .i64 a0_0) := (blk_cell BK393.out 0).trans rfl
          have hcz11_1 : w3.cell? ⟨gb393, 1, none⟩ = some (.slice A0_1 l0_1.length c0_1) := (blk_cell BK393.out 1).trans rfl
          have hcz11_2 : w3.cell? ⟨gb393, 2, none⟩ = some (.int .i64 a0_2) := (blk_cell BK393.out 2).trans rfl
          have hcz11_3 : w3.cell? ⟨gb393, 3, none⟩ = some (.int .i64 a0_3) := (blk_cell BK393.out 3).trans rfl
          have hfz11_0 := blk_frozen BK393.out 0
          have hfz11_1 := blk_frozen BK393.out 1
          have hfz11_2 := blk_frozen BK393.out 2
          have hfz11_3 := blk_frozen BK393.out 3
          go_wp2
          repeat (go_quiet (fail); try go_wp2)
          go_meet
          case rel => exact ⟨_, (true), (by first | rfl | (simp; done) | (simp [*]; done)), H', ⟨by first | omega | exact Nat.le_refl _⟩, ⟨by (with_reducible repeat (first | refine blk_drewN ?_ _ | refine blk_drew ?_ | refine blk_alloc ?_ _)); exact BK393.out⟩, ⟨by repeat (first | (with_reducible first | exact HB.out | apply below_alloc | apply pw_below_drewN | apply below_drew1 | refine below_set ?_ GE393.out) | exact HB.out)⟩⟩
        · rw [if_neg c10] at H
          have c10b0 : decide (4 < (l0_1.length : Int)) = false := decide_eq_false c10
          have c10b1 : decide (4 < l0_1.length) = false := decide_eq_false (by omega)
          clear c10
          by_cases c12 : a0_2 < 1
          · rw [if_pos c12] at H
            have c12b0 : decide (a0_2 < 1) = true := decide_eq_true c12
            clear c12
            have H' := Aside0.mk H
            clear H
            have hcz13_0 : w3.cell? ⟨gb393, 0, none⟩ = some (.int .i64 a0_0) := (blk_cell BK393.out 0).trans rfl
            have hcz13_1 : w3.cell? ⟨gb393, 1, none⟩ = some (.slice A0_1 l0_1.length c0_1) := (blk_cell BK393.out 1).trans rfl
            have hcz13_2 : w3.cell? ⟨gb393, 2, none⟩ = some (.int .i64 a0_2) := (blk_cell BK393.out 2).trans rfl
            have hcz13_3 : w3.cell? ⟨gb393, 3, none⟩ = some (.int .i64 a0_3) := (blk_cell BK393.out 3).trans rfl
            have hfz13_0 := blk_frozen BK393.out 0
            have hfz13_1 := blk_frozen BK393.out 1
            have hfz13_2 := blk_frozen BK393.out 2
            have hfz13_3 := blk_frozen BK393.out 3
            go_wp2
            repeat (go_quiet (fail); try go_wp2)
            go_meet
            case rel => exact ⟨_, (true), (by first | rfl | (simp; done) | (simp [*]; done)), H', ⟨by first | omega | exact Nat.le_refl _⟩, ⟨by (with_reducible repeat (first | refine blk_drewN ?_ _ | refine blk_drew ?_ | refine blk_alloc ?_ _)); exact BK393.out⟩, ⟨by repeat (first | (with_reducible first | exact HB.out | apply below_alloc | apply pw_below_drewN | apply below_drew1 | refine below_set ?_ GE393.out) | exact HB.out)⟩⟩
          · rw [if_neg c12] at H
            have c12b0 : decide (a0_2 < 1) = false := decide_eq_false c12
            clear c12
            by_cases c14 : a0_2 > 16
            · rw [if_pos c14] at H
              have c14b0 : decide (16 < a0_2) = true := decide_eq_true c14
              clear c14
              have H' := Aside0.mk H
              clear H
              have hcz15_0 : w3.cell? ⟨gb393, 0, none⟩ = some (.int .i64 a0_0) := (blk_cell BK393.out 0).trans rfl
              have hcz15_1 : w3.cell? ⟨gb393, 1, none⟩ = some (.slice A0_1 l0_1.length c0_1) := (blk_cell BK393.out 1).trans rfl
              have hcz15_2 : w3.cell? ⟨gb393, 2, none⟩ = some (.int .i64 a0_2) := (blk_cell BK393.out 2).trans rfl
              have hcz15_3 : w3.cell? ⟨gb393, 3, none⟩ = some (.int .i64 a0_3) := (blk_cell BK393.out 3).trans rfl
              have hfz15_0 := blk_frozen BK393.out 0
              have hfz15_1 := blk_frozen BK393.out 1
              have hfz15_2 := blk_frozen BK393.out 2
              have hfz15_3 := blk_frozen BK393.out 3
              go_wp2
              repeat (go_quiet (fail); try go_wp2)
              go_meet
              case rel => exact ⟨_, (true), (by first | rfl | (simp; done) | (simp [*]; done)), H', ⟨by first | omega | exact Nat.le_refl _⟩, ⟨by (with_reducible repeat (first | refine blk_drewN ?_ _ | refine blk_drew ?_ | refine blk_alloc ?_ _)); exact BK393.out⟩, ⟨by repeat (first | (with_reducible first | exact HB.out | apply below_alloc | apply pw_below_drewN | apply below_drew1 | refine below_set ?_ GE393.out) | exact HB.out)⟩⟩
            · rw [if_neg c14] at H
              have c14b0 : decide (16 < a0_2) = false := decide_eq_false c14
              clear c14
              by_cases c16 : a0_3 < 1
              · rw [if_pos c16] at H
                have c16b0 : decide (a0_3 < 1) = true := decide_eq_true c16
                clear c16
                have H' := Aside0.mk H
                clear H
                have hcz17_0 : w3.cell? ⟨gb393, 0, none⟩ = some (.int .i64 a0_0) := (blk_cell BK393.out 0).trans rfl
                have hcz17_1 : w3.cell? ⟨gb393, 1, none⟩ = some (.slice A0_1 l0_1.length c0_1) := (blk_cell BK393.out 1).trans rfl
                have hcz17_2 : w3.cell? ⟨gb393, 2, none⟩ = some (.int .i64 a0_2) := (blk_cell BK393.out 2).trans rfl
                have hcz17_3 : w3.cell? ⟨gb393, 3, none⟩ = some (.int .i64 a0_3) := (blk_cell BK393.out 3).trans rfl
                have hfz17_0 := blk_frozen BK393.out 0
                have hfz17_1 := blk_frozen BK393.out 1
                have hfz17_2 := blk_frozen BK393.out 2
                have hfz17_3 := blk_frozen BK393.out 3
                go_wp2
                repeat (go_quiet (fail); try go_wp2)
                go_meet
                case rel => exact ⟨_, (true), (by first | rfl | (simp; done) | (simp [*]; done)), H', ⟨by first | omega | exact Nat.le_refl _⟩, ⟨by (with_reducible repeat (first | refine blk_drewN ?_ _ | refine blk_drew ?_ | refine blk_alloc ?_ _)); exact BK393.out⟩, ⟨by repeat (first | (with_reducible first | exact HB.out | apply below_alloc | apply pw_below_drewN | apply below_drew1 | refine below_set ?_ GE393.out) | exact HB.out)⟩⟩
              · rw [if_neg c16] at H
                have c16b0 : decide (a0_3 < 1) = false := decide_eq_false c16
                clear c16
                have H' := Aside0.mk H
                clear H
                have hcz18_0 : w3.cell? ⟨gb393, 0, none⟩ = some (.int .i64 a0_0) := (blk_cell BK393.out 0).trans rfl
                have hcz18_1 : w3.cell? ⟨gb393, 1, none⟩ = some (.slice A0_1 l0_1.length c0_1) := (blk_cell BK393.out 1).trans rfl
                have hcz18_2 : w3.cell? ⟨gb393, 2, none⟩ = some (.int .i64 a0_2) := (blk_cell BK393.out 2).trans rfl
                have hcz18_3 : w3.cell? ⟨gb393, 3, none⟩ = some (.int .i64 a0_3) := (blk_cell BK393.out 3).trans rfl
                have hfz18_0 := blk_frozen BK393.out 0
                have hfz18_1 := blk_frozen BK393.out 1
                have hfz18_2 := blk_frozen BK393.out 2
                have hfz18_3 := blk_frozen BK393.out 3
                go_wp2
                repeat (go_quiet (fail); try go_wp2)
                go_meet
                case rel => exact ⟨_, (decide (a0_3 > 64)), (by first | rfl | (simp; done) | (simp [*]; done)), H', ⟨by first | omega | exact Nat.le_refl _⟩, ⟨by (with_reducible repeat (first | refine blk_drewN ?_ _ | refine blk_drew ?_ | refine blk_alloc ?_ _)); exact BK393.out⟩, ⟨by repeat (first | (with_reducible first | exact HB.out | apply below_alloc | apply pw_below_drewN | apply below_drew1 | refine below_set ?_ GE393.out) | exact HB.out)⟩⟩
 case rest =>
  clear HC2
  try clear c1
  try clear c2
  try clear p2
  try clear c4
  try clear c4b0
  try clear c6
  try clear c6b0
  try clear c8
  try clear c8b0
  try clear c8b1
  try clear c10
  try clear c10b0
  try clear c10b1
  try clear c12
  try clear c12b0
  try clear c14
  try clear c14b0
  try clear c16
  try clear c16b0
  try clear hcz11_0
  try clear hcz11_1
  try clear hcz11_2
  try clear hcz11_3
  try clear hcz13_0
  try clear hcz13_1
  try clear hcz13_2
  try clear hcz13_3
  try clear hcz15_0
  try clear hcz15_1
  try clear hcz15_2
  try clear hcz15_3
  try clear hcz17_0
  try clear hcz17_1
  try clear hcz17_2
  try clear hcz17_3
  try clear hcz18_0
  try clear hcz18_1
  try clear hcz18_2
  try clear hcz18_3
  try clear hcz5_0
  try clear hcz5_1
  try clear hcz5_2
  try clear hcz5_3
  try clear hcz7_0
  try clear hcz7_1
  try clear hcz7_2
  try clear hcz7_3
  try clear hcz9_0
  try clear hcz9_1
  try clear hcz9_2
  try clear hcz9_3
  try clear hfz11_0
  try clear hfz11_1
  try clear hfz11_2
  try clear hfz11_3
  try clear hfz13_0
  try clear hfz13_1
  try clear hfz13_2
  try clear hfz13_3
  try clear hfz15_0
  try clear hfz15_1
  try clear hfz15_2
  try clear hfz15_3
  try clear hfz17_0
  try clear hfz17_1
  try clear hfz17_2
  try clear hfz17_3
  try clear hfz18_0
  try clear hfz18_1
  try clear hfz18_2
  try clear hfz18_3
  try clear hfz5_0
  try clear hfz5_1
  try clear hfz5_2
  try clear hfz5_3
  try clear hfz7_0
  try clear hfz7_1
  try clear hfz7_2
  try clear hfz7_3
  try clear hfz9_0
  try clear hfz9_1
  try clear hfz9_2
  try clear hfz9_3
  obtain ⟨kq, x46_1, rfl, HA, HJ1, BK393, HB⟩ := hcut
  cases kq with
  | zero => exact absurd HA.out (by simp [braidworkref19_Config.j0])
  | succ kj1 =>
   have H := HA.out
   clear HA
   simp only [braidworkref19_Config.j0] at H
   by_cases c19 : x46_1 = true
   · subst c19
     have H1 : (some false) = some r := by rw [if_pos rfl] at H; exact H
     clear H
     have H := H1
     clear H1
     obtain rfl := Option.some.inj H
     go_wp2
     repeat (go_quiet (fail); try go_wp2)
     go_ret
     exact ⟨by first | rfl | (simp [errW_none, errW_some] <;> rfl) | (simp [*, errW_none, errW_some] <;> rfl), by repeat (first | (with_reducible first | exact HB.out | apply below_alloc | apply pw_below_drewN | apply below_drew1 | refine below_set ?_ GE393.out) | exact HB.out)⟩
   · replace c19 := Bool.eq_false_iff.mpr c19
     subst c19
     have H1 : (braidworkref19_Config.l0 kj1 0 a0_0 l0_1 a0_2 a0_3) = some r := by rw [if_neg (show ¬ (false = true) by decide)] at H; exact H
     clear H
     have H := H1
     clear H1
     have H' := Aside0.mk H
     clear H
     go_wp2
     repeat (go_quiet (fail); try go_wp2)
     go_loopg [3] kj1 (fun kq v3 w' => ∃ (x3_2 : Int), v3 = .int .i64 x3_2 ∧ Aside0 (braidworkref19_Config.l0 kq x3_2 a0_0 l0_1 a0_2 a0_3 = some r) ∧ Aside0 (kq ≤ kj1) ∧ Aside0 (w'.heap[gb393]? = some (.cells #[.int .i64 a0_0, (.slice A0_1 l0_1.length c0_1), .int .i64 a0_2, .int .i64 a0_3] 24 (0, 0))) ∧ Aside0 (Below w.heap.size w w'))
     case atStart => exact ⟨(0), (by first | rfl | (simp; done) | (simp [*]; done)), H', ⟨Nat.le_refl _⟩, ⟨by (with_reducible repeat (first | refine blk_drewN ?_ _ | refine blk_drew ?_ | refine blk_alloc ?_ _)); exact BK393.out⟩, ⟨by repeat (first | (with_reducible first | exact HB.out | apply below_alloc | apply pw_below_drewN | apply below_drew1 | refine below_set ?_ GE393.out) | exact HB.out)⟩⟩
     case round =>
      clear H'
      try clear c1
      try clear c2
      try clear p2
      try clear c4
      try clear c4b0
      try clear c6
      try clear c6b0
      try clear c8
      try clear c8b0
      try clear c8b1
      try clear c10
      try clear c10b0
      try clear c10b1
      try clear c12
      try clear c12b0
      try clear c14
      try clear c14b0
      try clear c16
      try clear c16b0
      try clear c19
      try clear hcz11_0
      try clear hcz11_1
      try clear hcz11_2
      try clear hcz11_3
      try clear hcz13_0
      try clear hcz13_1
      try clear hcz13_2
      try clear hcz13_3
      try clear hcz15_0
      try clear hcz15_1
      try clear hcz15_2
      try clear hcz15_3
      try clear hcz17_0
      try clear hcz17_1
      try clear hcz17_2
      try clear hcz17_3
      try clear hcz18_0
      try clear hcz18_1
      try clear hcz18_2
      try clear hcz18_3
      try clear hcz5_0
      try clear hcz5_1
      try clear hcz5_2
      try clear hcz5_3
      try clear hcz7_0
      try clear hcz7_1
      try clear hcz7_2
      try clear hcz7_3
      try clear hcz9_0
      try clear hcz9_1
      try clear hcz9_2
      try clear hcz9_3
      try clear hfz11_0
      try clear hfz11_1
      try clear hfz11_2
      try clear hfz11_3
      try clear hfz13_0
      try clear hfz13_1
      try clear hfz13_2
      try clear hfz13_3
      try clear hfz15_0
      try clear hfz15_1
      try clear hfz15_2
      try clear hfz15_3
      try clear hfz17_0
      try clear hfz17_1
      try clear hfz17_2
      try clear hfz17_3
      try clear hfz18_0
      try clear hfz18_1
      try clear hfz18_2
      try clear hfz18_3
      try clear hfz5_0
      try clear hfz5_1
      try clear hfz5_2
      try clear hfz5_3
      try clear hfz7_0
      try clear hfz7_1
      try clear hfz7_2
      try clear hfz7_3
      try clear hfz9_0
      try clear hfz9_1
      try clear hfz9_2
      try clear hfz9_3
      try clear p2
      obtain ⟨x3_2, rfl, HA, HK2, BK393, HB⟩ := hrel
      cases gk with
      | zero => exact absurd HA.out (by simp [braidworkref19_Config.l0])
      | succ k2 =>
       have H := HA.out
       clear HA
       simp only [braidworkref19_Config.l0] at H
       by_cases c20 : x3_2 < (l0_1.length : Int)
       · rw [if_pos c20] at H
         have c20b0 : decide (x3_2 < (l0_1.length : Int)) = true := decide_eq_true c20
         clear c20
         by_cases c21 : 0 ≤ x3_2
         · rw [if_pos c21] at H
           have c21b0 : decide (0 ≤ x3_2) = true := decide_eq_true c21
           clear c21
           have HC22 := Aside0.mk H
           clear H
           have hcz23_0 : wr.cell? ⟨gb393, 0, none⟩ = some (.int .i64 a0_0) := (blk_cell BK393.out 0).trans rfl
           have hcz23_1 : wr.cell? ⟨gb393, 1, none⟩ = some (.slice A0_1 l0_1.length c0_1) := (blk_cell BK393.out 1).trans rfl
           have hcz23_2 : wr.cell? ⟨gb393, 2, none⟩ = some (.int .i64 a0_2) := (blk_cell BK393.out 2).trans rfl
           have hcz23_3 : wr.cell? ⟨gb393, 3, none⟩ = some (.int .i64 a0_3) := (blk_cell BK393.out 3).trans rfl
           have hfz23_0 := blk_frozen BK393.out 0
           have hfz23_1 := blk_frozen BK393.out 1
           have hfz23_2 := blk_frozen BK393.out 2
           have hfz23_3 := blk_frozen BK393.out 3
           have p394 : 0 ≤ (x3_2 : Int) := of_decide_eq_true (by first | (with_reducible assumption) | assumption)
           have q394 : x3_2 < (l0_1.length : Int) := of_decide_eq_true (by first | (with_reducible assumption) | assumption)
           obtain ⟨ad394, A394_3, c394_3, e394, hx394_0, hx394_1, hx394_2, hx394_3, hl394_3, hi394_3⟩ := at_T124 HR0_1.out x3_2 p394 q394
           cases e394
           replace hx394_0 := (HB.out.cell (World.block_lt_of_cell? w _ hx394_0)).trans hx394_0
           replace hx394_1 := (HB.out.cell (World.block_lt_of_cell? w _ hx394_1)).trans hx394_1
           replace hx394_2 := (HB.out.cell (World.block_lt_of_cell? w _ hx394_2)).trans hx394_2
           replace hx394_3 := (HB.out.cell (World.block_lt_of_cell? w _ hx394_3)).trans hx394_3
           have HR394_3 := Aside0.mk hi394_3
           have HC394_3 := Aside0.mk hl394_3
           clear hi394_3 hl394_3
           replace p394 := eq_true p394
           replace q394 := eq_true q394
           go_upto_region 7 with (first | ((with_reducible refine gate_dst (N := 4) rfl ?_); (try (refine gate_guard (by rfl) ?_; dsimp only)); refine box_event ?hg (N := 4) ?hd (cs := #[.int .i64 0, .int .i64 0, .int .i64 0, .slice none 0 0]) (t := 124) ?hr ?_; (case hd => rfl); (case hg => rfl); (case hr => first | (go_simp; done) | (go_simp; rfl)); intro gb395 hg w24 hbox hb; have n0_ := Aside0.mk (blk_below (g := gb393) (o := .cells #[.int .i64 a0_0, .slice (some ad394) l0_1.length c0_1, .int .i64 a0_2, .int .i64 a0_3] 24 (0, 0)) (by (with_reducible repeat (first | refine blk_drewN ?_ _ | refine blk_drew ?_ | refine blk_alloc ?_ _)); exact BK393.out) hb); have n1_ := Aside0.mk (below_step (by repeat (first | (with_reducible first | exact HB.out | apply below_alloc | apply pw_below_drewN | apply below_drew1 | refine below_set ?_ GE393.out) | exact HB.out)) hb); have n2_ := Aside0.mk (hbox); have n3_ := Aside0.mk ((by rw [hg]; exact (below_size (by repeat (first | (with_reducible first | exact HB.out | apply below_alloc | apply pw_below_drewN | apply below_drew1 | refine below_set ?_ GE393.out) | exact HB.out))) : w.heap.size ≤ gb395)); have n4_ := Aside0.mk ((by rw [hg]; exact (below_size (by repeat (first | (with_reducible first | exact HB.out | apply below_alloc | apply pw_below_drewN | apply below_drew1 | refine below_set ?_ GE393.out) | exact HB.out))) : w.heap.size ≤ gb395)); have n5_ := Aside0.mk ((by rw [hg]; exact Nat.ne_of_lt (blk_lt (g := gb393) (o := .cells #[.int .i64 a0_0, .slice (some ad394) l0_1.length c0_1, .int .i64 a0_2, .int .i64 a0_3] 24 (0, 0)) (by (with_reducible repeat (first | refine blk_drewN ?_ _ | refine blk_drew ?_ | refine blk_alloc ?_ _)); exact BK393.out)) : gb393 ≠ gb395)); have n6_ := Aside0.mk ((by rw [hg]; exact Nat.ne_of_gt (blk_lt (g := gb393) (o := .cells #[.int .i64 a0_0, .slice (some ad394) l0_1.length c0_1, .int .i64 a0_2, .int .i64 a0_3] 24 (0, 0)) (by (with_reducible repeat (first | refine blk_drewN ?_ _ | refine blk_drew ?_ | refine blk_alloc ?_ _)); exact BK393.out)) : gb395 ≠ gb393)); clear BK393; clear HB; have BK393 := n0_; have HB := n1_; have BK395 := n2_; have GW395 := n3_; have GE395 := n4_; have NB393_395 := n5_; have NB395_393 := n6_; clear n0_ n1_ n2_ n3_ n4_ n5_ n6_; clear hb hbox hg; have hnb25 := NB395_393.out; have hnc25 := NB393_395.out; have hcz26_0 : w24.cell? ⟨gb395, 0, none⟩ = some (.int .i64 0) := (blk_cell BK395.out 0).trans rfl; have hcz26_1 : w24.cell? ⟨gb395, 1, none⟩ = some (.int .i64 0) := (blk_cell BK395.out 1).trans rfl; have hcz26_2 : w24.cell? ⟨gb395, 2, none⟩ = some (.int .i64 0) := (blk_cell BK395.out 2).trans rfl; have hcz26_3 : w24.cell? ⟨gb395, 3, none⟩ = some (.slice none 0 0) := (blk_cell BK395.out 3).trans rfl; have hfz26_0 := blk_frozen BK395.out 0; have hfz26_1 := blk_frozen BK395.out 1; have hfz26_2 := blk_frozen BK395.out 2; have hfz26_3 := blk_frozen BK395.out 3))
           repeat (go_quiet (first | ((with_reducible refine gate_dst (N := 4) rfl ?_); (try (refine gate_guard (by rfl) ?_; dsimp only)); refine box_event ?hg (N := 4) ?hd (cs := #[.int .i64 0, .int .i64 0, .int .i64 0, .slice none 0 0]) (t := 124) ?hr ?_; (case hd => rfl); (case hg => rfl); (case hr => first | (go_simp; done) | (go_simp; rfl)); intro gb395 hg w24 hbox hb; have n0_ := Aside0.mk (blk_below (g := gb393) (o := .cells #[.int .i64 a0_0, .slice (some ad394) l0_1.length c0_1, .int .i64 a0_2, .int .i64 a0_3] 24 (0, 0)) (by (with_reducible repeat (first | refine blk_drewN ?_ _ | refine blk_drew ?_ | refine blk_alloc ?_ _)); exact BK393.out) hb); have n1_ := Aside0.mk (below_step (by repeat (first | (with_reducible first | exact HB.out | apply below_alloc | apply pw_below_drewN | apply below_drew1 | refine below_set ?_ GE393.out) | exact HB.out)) hb); have n2_ := Aside0.mk (hbox); have n3_ := Aside0.mk ((by rw [hg]; exact (below_size (by repeat (first | (with_reducible first | exact HB.out | apply below_alloc | apply pw_below_drewN | apply below_drew1 | refine below_set ?_ GE393.out) | exact HB.out))) : w.heap.size ≤ gb395)); have n4_ := Aside0.mk ((by rw [hg]; exact (below_size (by repeat (first | (with_reducible first | exact HB.out | apply below_alloc | apply pw_below_drewN | apply below_drew1 | refine below_set ?_ GE393.out) | exact HB.out))) : w.heap.size ≤ gb395)); have n5_ := Aside0.mk ((by rw [hg]; exact Nat.ne_of_lt (blk_lt (g := gb393) (o := .cells #[.int .i64 a0_0, .slice (some ad394) l0_1.length c0_1, .int .i64 a0_2, .int .i64 a0_3] 24 (0, 0)) (by (with_reducible repeat (first | refine blk_drewN ?_ _ | refine blk_drew ?_ | refine blk_alloc ?_ _)); exact BK393.out)) : gb393 ≠ gb395)); have n6_ := Aside0.mk ((by rw [hg]; exact Nat.ne_of_gt (blk_lt (g := gb393) (o := .cells #[.int .i64 a0_0, .slice (some ad394) l0_1.length c0_1, .int .i64 a0_2, .int .i64 a0_3] 24 (0, 0)) (by (with_reducible repeat (first | refine blk_drewN ?_ _ | refine blk_drew ?_ | refine blk_alloc ?_ _)); exact BK393.out)) : gb395 ≠ gb393)); clear BK393; clear HB; have BK393 := n0_; have HB := n1_; have BK395 := n2_; have GW395 := n3_; have GE395 := n4_; have NB393_395 := n5_; have NB395_393 := n6_; clear n0_ n1_ n2_ n3_ n4_ n5_ n6_; clear hb hbox hg; have hnb25 := NB395_393.out; have hnc25 := NB393_395.out; have hcz26_0 : w24.cell? ⟨gb395, 0, none⟩ = some (.int .i64 0) := (blk_cell BK395.out 0).trans rfl; have hcz26_1 : w24.cell? ⟨gb395, 1, none⟩ = some (.int .i64 0) := (blk_cell BK395.out 1).trans rfl; have hcz26_2 : w24.cell? ⟨gb395, 2, none⟩ = some (.int .i64 0) := (blk_cell BK395.out 2).trans rfl; have hcz26_3 : w24.cell? ⟨gb395, 3, none⟩ = some (.slice none 0 0) := (blk_cell BK395.out 3).trans rfl; have hfz26_0 := blk_frozen BK395.out 0; have hfz26_1 := blk_frozen BK395.out 1; have hfz26_2 := blk_frozen BK395.out 2; have hfz26_3 := blk_frozen BK395.out 3)); go_upto_region 7 with (first | ((with_reducible refine gate_dst (N := 4) rfl ?_); (try (refine gate_guard (by rfl) ?_; dsimp only)); refine box_event ?hg (N := 4) ?hd (cs := #[.int .i64 0, .int .i64 0, .int .i64 0, .slice none 0 0]) (t := 124) ?hr ?_; (case hd => rfl); (case hg => rfl); (case hr => first | (go_simp; done) | (go_simp; rfl)); intro gb395 hg w24 hbox hb; have n0_ := Aside0.mk (blk_below (g := gb393) (o := .cells #[.int .i64 a0_0, .slice (some ad394) l0_1.length c0_1, .int .i64 a0_2, .int .i64 a0_3] 24 (0, 0)) (by (with_reducible repeat (first | refine blk_drewN ?_ _ | refine blk_drew ?_ | refine blk_alloc ?_ _)); exact BK393.out) hb); have n1_ := Aside0.mk (below_step (by repeat (first | (with_reducible first | exact HB.out | apply below_alloc | apply pw_below_drewN | apply below_drew1 | refine below_set ?_ GE393.out) | exact HB.out)) hb); have n2_ := Aside0.mk (hbox); have n3_ := Aside0.mk ((by rw [hg]; exact (below_size (by repeat (first | (with_reducible first | exact HB.out | apply below_alloc | apply pw_below_drewN | apply below_drew1 | refine below_set ?_ GE393.out) | exact HB.out))) : w.heap.size ≤ gb395)); have n4_ := Aside0.mk ((by rw [hg]; exact (below_size (by repeat (first | (with_reducible first | exact HB.out | apply below_alloc | apply pw_below_drewN | apply below_drew1 | refine below_set ?_ GE393.out) | exact HB.out))) : w.heap.size ≤ gb395)); have n5_ := Aside0.mk ((by rw [hg]; exact Nat.ne_of_lt (blk_lt (g := gb393) (o := .cells #[.int .i64 a0_0, .slice (some ad394) l0_1.length c0_1, .int .i64 a0_2, .int .i64 a0_3] 24 (0, 0)) (by (with_reducible repeat (first | refine blk_drewN ?_ _ | refine blk_drew ?_ | refine blk_alloc ?_ _)); exact BK393.out)) : gb393 ≠ gb395)); have n6_ := Aside0.mk ((by rw [hg]; exact Nat.ne_of_gt (blk_lt (g := gb393) (o := .cells #[.int .i64 a0_0, .slice (some ad394) l0_1.length c0_1, .int .i64 a0_2, .int .i64 a0_3] 24 (0, 0)) (by (with_reducible repeat (first | refine blk_drewN ?_ _ | refine blk_drew ?_ | refine blk_alloc ?_ _)); exact BK393.out)) : gb395 ≠ gb393)); clear BK393; clear HB; have BK393 := n0_; have HB := n1_; have BK395 := n2_; have GW395 := n3_; have GE395 := n4_; have NB393_395 := n5_; have NB395_393 := n6_; clear n0_ n1_ n2_ n3_ n4_ n5_ n6_; clear hb hbox hg; have hnb25 := NB395_393.out; have hnc25 := NB393_395.out; have hcz26_0 : w24.cell? ⟨gb395, 0, none⟩ = some (.int .i64 0) := (blk_cell BK395.out 0).trans rfl; have hcz26_1 : w24.cell? ⟨gb395, 1, none⟩ = some (.int .i64 0) := (blk_cell BK395.out 1).trans rfl; have hcz26_2 : w24.cell? ⟨gb395, 2, none⟩ = some (.int .i64 0) := (blk_cell BK395.out 2).trans rfl; have hcz26_3 : w24.cell? ⟨gb395, 3, none⟩ = some (.slice none 0 0) := (blk_cell BK395.out 3).trans rfl; have hfz26_0 := blk_frozen BK395.out 0; have hfz26_1 := blk_frozen BK395.out 1; have hfz26_2 := blk_frozen BK395.out 2; have hfz26_3 := blk_frozen BK395.out 3)))
           (try simp only [Act.put, List.setIfInBounds_toArray, List.set_cons_zero, List.set_cons_succ])
           go_cut [108] (fun v108 wc => ∃ (kq : Nat) (x108_21 : Bool), v108 = .bool x108_21 ∧ Aside0 (braidworkref19_Config.j2 kq x3_2 x108_21 a0_0 l0_1 a0_2 a0_3 ((rd_T124 l0_1 x3_2).f0) ((rd_T124 l0_1 x3_2).f1) ((rd_T124 l0_1 x3_2).f2) ((rd_T124 l0_1 x3_2).f3) = some r) ∧ Aside0 (kq ≤ k2) ∧ Aside0 (wc.heap[gb393]? = some (.cells #[.int .i64 a0_0, (.slice (some ad394) l0_1.length c0_1), .int .i64 a0_2, .int .i64 a0_3] 24 (0, 0))) ∧ Aside0 (wc.heap[gb395]? = some (.cells #[.int .i64 ((rd_T124 l0_1 x3_2).f0), .int .i64 ((rd_T124 l0_1 x3_2).f1), .int .i64 ((rd_T124 l0_1 x3_2).f2), (.slice A394_3 ((rd_T124 l0_1 x3_2).f3).length c394_3)] 124 (0, 0))) ∧ Aside0 (Below w.heap.size w wc))
           case first =>
            have H := HC22.out
            clear HC22
            by_cases c27 : ((rd_T124 l0_1 x3_2).f0) < 1
            · rw [if_pos c27] at H
              have c27b0 : decide (((rd_T124 l0_1 x3_2).f0) < 1) = true := decide_eq_true c27
              clear c27
              (first | rw [c27b0] | (simp only [i64_w, i32_w]; rw [c27b0]) | skip)
              have H' := Aside0.mk H
              clear H
              have hnb28 := NB395_393.out
              have hnc28 := NB393_395.out
              have hcz29_0 : w24.cell? ⟨gb395, 0, none⟩ = some (.int .i64 0) := (blk_cell BK395.out 0).trans rfl
              have hcz29_1 : w24.cell? ⟨gb395, 1, none⟩ = some (.int .i64 0) := (blk_cell BK395.out 1).trans rfl
              have hcz29_2 : w24.cell? ⟨gb395, 2, none⟩ = some (.int .i64 0) := (blk_cell BK395.out 2).trans rfl
              have hcz29_3 : w24.cell? ⟨gb395, 3, none⟩ = some (.slice none 0 0) := (blk_cell BK395.out 3).trans rfl
              have hfz29_0 := blk_frozen BK395.out 0
              have hfz29_1 := blk_frozen BK395.out 1
              have hfz29_2 := blk_frozen BK395.out 2
              have hfz29_3 := blk_frozen BK395.out 3
              go_wp2
              repeat (go_quiet (fail); try go_wp2)
              go_meet
              case rel => exact ⟨_, (true), (by first | rfl | (simp; done) | (simp [*]; done)), H', ⟨by have := HJ1.out; have := HK2.out; first | omega | exact Nat.le_refl _⟩, ⟨by (with_reducible repeat (first | refine blk_drewN ?_ _ | refine blk_drew ?_ | refine blk_alloc ?_ _)); refine blk_far ?_ NB393_395.out _; (with_reducible repeat (first | refine blk_drewN ?_ _ | refine blk_drew ?_ | refine blk_alloc ?_ _)); refine blk_far ?_ NB393_395.out _; (with_reducible repeat (first | refine blk_drewN ?_ _ | refine blk_drew ?_ | refine blk_alloc ?_ _)); refine blk_far ?_ NB393_395.out _; (with_reducible repeat (first | refine blk_drewN ?_ _ | refine blk_drew ?_ | refine blk_alloc ?_ _)); refine blk_far ?_ NB393_395.out _; (with_reducible repeat (first | refine blk_drewN ?_ _ | refine blk_drew ?_ | refine blk_alloc ?_ _)); exact BK393.out⟩, ⟨by (with_reducible repeat (first | refine blk_drewN ?_ _ | refine blk_drew ?_ | refine blk_alloc ?_ _)); refine blk_put (cs := #[.int .i64 ((rd_T124 l0_1 x3_2).f0), .int .i64 ((rd_T124 l0_1 x3_2).f1), .int .i64 ((rd_T124 l0_1 x3_2).f2), .slice none 0 0]) ?_ 3 _ rfl; (with_reducible repeat (first | refine blk_drewN ?_ _ | refine blk_drew ?_ | refine blk_alloc ?_ _)); refine blk_put (cs := #[.int .i64 ((rd_T124 l0_1 x3_2).f0), .int .i64 ((rd_T124 l0_1 x3_2).f1), .int .i64 0, .slice none 0 0]) ?_ 2 _ rfl; (with_reducible repeat (first | refine blk_drewN ?_ _ | refine blk_drew ?_ | refine blk_alloc ?_ _)); refine blk_put (cs := #[.int .i64 ((rd_T124 l0_1 x3_2).f0), .int .i64 0, .int .i64 0, .slice none 0 0]) ?_ 1 _ rfl; (with_reducible repeat (first | refine blk_drewN ?_ _ | refine blk_drew ?_ | refine blk_alloc ?_ _)); refine blk_put (cs := #[.int .i64 0, .int .i64 0, .int .i64 0, .slice none 0 0]) ?_ 0 _ rfl; (with_reducible repeat (first | refine blk_drewN ?_ _ | refine blk_drew ?_ | refine blk_alloc ?_ _)); exact BK395.out⟩, ⟨by repeat (first | (with_reducible first | exact HB.out | apply below_alloc | apply pw_below_drewN | apply below_drew1 | refine below_set ?_ GE393.out | refine below_set ?_ GE395.out) | exact HB.out)⟩⟩
            · rw [if_neg c27] at H
              have c27b0 : decide (((rd_T124 l0_1 x3_2).f0) < 1) = false := decide_eq_false c27
              clear c27
              (first | rw [c27b0] | (simp only [i64_w, i32_w]; rw [c27b0]) | skip)
              by_cases c30 : ((rd_T124 l0_1 x3_2).f0) > 255
              · rw [if_pos c30] at H
                have c30b0 : decide (255 < ((rd_T124 l0_1 x3_2).f0)) = true := decide_eq_true c30
                clear c30
                have H' := Aside0.mk H
                clear H
                have hnb31 := NB395_393.out
                have hnc31 := NB393_395.out
                have hcz32_0 : w24.cell? ⟨gb395, 0, none⟩ = some (.int .i64 0) := (blk_cell BK395.out 0).trans rfl
                have hcz32_1 : w24.cell? ⟨gb395, 1, none⟩ = some (.int .i64 0) := (blk_cell BK395.out 1).trans rfl
                have hcz32_2 : w24.cell? ⟨gb395, 2, none⟩ = some (.int .i64 0) := (blk_cell BK395.out 2).trans rfl
                have hcz32_3 : w24.cell? ⟨gb395, 3, none⟩ = some (.slice none 0 0) := (blk_cell BK395.out 3).trans rfl
                have hfz32_0 := blk_frozen BK395.out 0
                have hfz32_1 := blk_frozen BK395.out 1
                have hfz32_2 := blk_frozen BK395.out 2
                have hfz32_3 := blk_frozen BK395.out 3
                go_wp2
                repeat (go_quiet (fail); try go_wp2)
                go_meet
                case rel => exact ⟨_, (true), (by first | rfl | (simp; done) | (simp [*]; done)), H', ⟨by have := HJ1.out; have := HK2.out; first | omega | exact Nat.le_refl _⟩, ⟨by (with_reducible repeat (first | refine blk_drewN ?_ _ | refine blk_drew ?_ | refine blk_alloc ?_ _)); refine blk_far ?_ NB393_395.out _; (with_reducible repeat (first | refine blk_drewN ?_ _ | refine blk_drew ?_ | refine blk_alloc ?_ _)); refine blk_far ?_ NB393_395.out _; (with_reducible repeat (first | refine blk_drewN ?_ _ | refine blk_drew ?_ | refine blk_alloc ?_ _)); refine blk_far ?_ NB393_395.out _; (with_reducible repeat (first | refine blk_drewN ?_ _ | refine blk_drew ?_ | refine blk_alloc ?_ _)); refine blk_far ?_ NB393_395.out _; (with_reducible repeat (first | refine blk_drewN ?_ _ | refine blk_drew ?_ | refine blk_alloc ?_ _)); exact BK393.out⟩, ⟨by (with_reducible repeat (first | refine blk_drewN ?_ _ | refine blk_drew ?_ | refine blk_alloc ?_ _)); refine blk_put (cs := #[.int .i64 ((rd_T124 l0_1 x3_2).f0), .int .i64 ((rd_T124 l0_1 x3_2).f1), .int .i64 ((rd_T124 l0_1 x3_2).f2), .slice none 0 0]) ?_ 3 _ rfl; (with_reducible repeat (first | refine blk_drewN ?_ _ | refine blk_drew ?_ | refine blk_alloc ?_ _)); refine blk_put (cs := #[.int .i64 ((rd_T124 l0_1 x3_2).f0), .int .i64 ((rd_T124 l0_1 x3_2).f1), .int .i64 0, .slice none 0 0]) ?_ 2 _ rfl; (with_reducible repeat (first | refine blk_drewN ?_ _ | refine blk_drew ?_ | refine blk_alloc ?_ _)); refine blk_put (cs := #[.int .i64 ((rd_T124 l0_1 x3_2).f0), .int .i64 0, .int .i64 0, .slice none 0 0]) ?_ 1 _ rfl; (with_reducible repeat (first | refine blk_drewN ?_ _ | refine blk_drew ?_ | refine blk_alloc ?_ _)); refine blk_put (cs := #[.int .i64 0, .int .i64 0, .int .i64 0, .slice none 0 0]) ?_ 0 _ rfl; (with_reducible repeat (first | refine blk_drewN ?_ _ | refine blk_drew ?_ | refine blk_alloc ?_ _)); exact BK395.out⟩, ⟨by repeat (first | (with_reducible first | exact HB.out | apply below_alloc | apply pw_below_drewN | apply below_drew1 | refine below_set ?_ GE393.out | refine below_set ?_ GE395.out) | exact HB.out)⟩⟩
              · rw [if_neg c30] at H
                have c30b0 : decide (255 < ((rd_T124 l0_1 x3_2).f0)) = false := decide_eq_false c30
                clear c30
                by_cases c33 : ((rd_T124 l0_1 x3_2).f1) < 1
                · rw [if_pos c33] at H
                  have c33b0 : decide (((rd_T124 l0_1 x3_2).f1) < 1) = true := decide_eq_true c33
                  clear c33
                  have H' := Aside0.mk H
                  clear H
                  have hnb34 := NB395_393.out
                  have hnc34 := NB393_395.out
                  have hcz35_0 : w24.cell? ⟨gb395, 0, none⟩ = some (.int .i64 0) := (blk_cell BK395.out 0).trans rfl
                  have hcz35_1 : w24.cell? ⟨gb395, 1, none⟩ = some (.int .i64 0) := (blk_cell BK395.out 1).trans rfl
                  have hcz35_2 : w24.cell? ⟨gb395, 2, none⟩ = some (.int .i64 0) := (blk_cell BK395.out 2).trans rfl
                  have hcz35_3 : w24.cell? ⟨gb395, 3, none⟩ = some (.slice none 0 0) := (blk_cell BK395.out 3).trans rfl
                  have hfz35_0 := blk_frozen BK395.out 0
                  have hfz35_1 := blk_frozen BK395.out 1
                  have hfz35_2 := blk_frozen BK395.out 2
                  have hfz35_3 := blk_frozen BK395.out 3
                  go_wp2
                  repeat (go_quiet (fail); try go_wp2)
                  go_meet
                  case rel => exact ⟨_, (true), (by first | rfl | (simp; done) | (simp [*]; done)), H', ⟨by have := HJ1.out; have := HK2.out; first | omega | exact Nat.le_refl _⟩, ⟨by (with_reducible repeat (first | refine blk_drewN ?_ _ | refine blk_drew ?_ | refine blk_alloc ?_ _)); refine blk_far ?_ NB393_395.out _; (with_reducible repeat (first | refine blk_drewN ?_ _ | refine blk_drew ?_ | refine blk_alloc ?_ _)); refine blk_far ?_ NB393_395.out _; (with_reducible repeat (first | refine blk_drewN ?_ _ | refine blk_drew ?_ | refine blk_alloc ?_ _)); refine blk_far ?_ NB393_395.out _; (with_reducible repeat (first | refine blk_drewN ?_ _ | refine blk_drew ?_ | refine blk_alloc ?_ _)); refine blk_far ?_ NB393_395.out _; (with_reducible repeat (first | refine blk_drewN ?_ _ | refine blk_drew ?_ | refine blk_alloc ?_ _)); exact BK393.out⟩, ⟨by (with_reducible repeat (first | refine blk_drewN ?_ _ | refine blk_drew ?_ | refine blk_alloc ?_ _)); refine blk_put (cs := #[.int .i64 ((rd_T124 l0_1 x3_2).f0), .int .i64 ((rd_T124 l0_1 x3_2).f1), .int .i64 ((rd_T124 l0_1 x3_2).f2), .slice none 0 0]) ?_ 3 _ rfl; (with_reducible repeat (first | refine blk_drewN ?_ _ | refine blk_drew ?_ | refine blk_alloc ?_ _)); refine blk_put (cs := #[.int .i64 ((rd_T124 l0_1 x3_2).f0), .int .i64 ((rd_T124 l0_1 x3_2).f1), .int .i64 0, .slice none 0 0]) ?_ 2 _ rfl; (with_reducible repeat (first | refine blk_drewN ?_ _ | refine blk_drew ?_ | refine blk_alloc ?_ _)); refine blk_put (cs := #[.int .i64 ((rd_T124 l0_1 x3_2).f0), .int .i64 0, .int .i64 0, .slice none 0 0]) ?_ 1 _ rfl; (with_reducible repeat (first | refine blk_drewN ?_ _ | refine blk_drew ?_ | refine blk_alloc ?_ _)); refine blk_put (cs := #[.int .i64 0, .int .i64 0, .int .i64 0, .slice none 0 0]) ?_ 0 _ rfl; (with_reducible repeat (first | refine blk_drewN ?_ _ | refine blk_drew ?_ | refine blk_alloc ?_ _)); exact BK395.out⟩, ⟨by repeat (first | (with_reducible first | exact HB.out | apply below_alloc | apply pw_below_drewN | apply below_drew1 | refine below_set ?_ GE393.out | refine below_set ?_ GE395.out) | exact HB.out)⟩⟩
                · rw [if_neg c33] at H
                  have c33b0 : decide (((rd_T124 l0_1 x3_2).f1) < 1) = false := decide_eq_false c33
                  clear c33
                  by_cases c36 : ((rd_T124 l0_1 x3_2).f1) > 65535
                  · rw [if_pos c36] at H
                    have c36b0 : decide (65535 < ((rd_T124 l0_1 x3_2).f1)) = true := decide_eq_true c36
                    clear c36
                    have H' := Aside0.mk H
                    clear H
                    have hnb37 := NB395_393.out
                    have hnc37 := NB393_395.out
                    have hcz38_0 : w24.cell? ⟨gb395, 0, none⟩ = some (.int .i64 0) := (blk_cell BK395.out 0).trans rfl
                    have hcz38_1 : w24.cell? ⟨gb395, 1, none⟩ = some (.int .i64 0) := (blk_cell BK395.out 1).trans rfl
                    have hcz38_2 : w24.cell? ⟨gb395, 2, none⟩ = some (.int .i64 0) := (blk_cell BK395.out 2).trans rfl
                    have hcz38_3 : w24.cell? ⟨gb395, 3, none⟩ = some (.slice none 0 0) := (blk_cell BK395.out 3).trans rfl
                    have hfz38_0 := blk_frozen BK395.out 0
                    have hfz38_1 := blk_frozen BK395.out 1
                    have hfz38_2 := blk_frozen BK395.out 2
                    have hfz38_3 := blk_frozen BK395.out 3
                    go_wp2
                    repeat (go_quiet (fail); try go_wp2)
                    go_meet
                    case rel => exact ⟨_, (true), (by first | rfl | (simp; done) | (simp [*]; done)), H', ⟨by have := HJ1.out; have := HK2.out; first | omega | exact Nat.le_refl _⟩, ⟨by (with_reducible repeat (first | refine blk_drewN ?_ _ | refine blk_drew ?_ | refine blk_alloc ?_ _)); refine blk_far ?_ NB393_395.out _; (with_reducible repeat (first | refine blk_drewN ?_ _ | refine blk_drew ?_ | refine blk_alloc ?_ _)); refine blk_far ?_ NB393_395.out _; (with_reducible repeat (first | refine blk_drewN ?_ _ | refine blk_drew ?_ | refine blk_alloc ?_ _)); refine blk_far ?_ NB393_395.out _; (with_reducible repeat (first | refine blk_drewN ?_ _ | refine blk_drew ?_ | refine blk_alloc ?_ _)); refine blk_far ?_ NB393_395.out _; (with_reducible repeat (first | refine blk_drewN ?_ _ | refine blk_drew ?_ | refine blk_alloc ?_ _)); exact BK393.out⟩, ⟨by (with_reducible repeat (first | refine blk_drewN ?_ _ | refine blk_drew ?_ | refine blk_alloc ?_ _)); refine blk_put (cs := #[.int .i64 ((rd_T124 l0_1 x3_2).f0), .int .i64 ((rd_T124 l0_1 x3_2).f1), .int .i64 ((rd_T124 l0_1 x3_2).f2), .slice none 0 0]) ?_ 3 _ rfl; (with_reducible repeat (first | refine blk_drewN ?_ _ | refine blk_drew ?_ | refine blk_alloc ?_ _)); refine blk_put (cs := #[.int .i64 ((rd_T124 l0_1 x3_2).f0), .int .i64 ((rd_T124 l0_1 x3_2).f1), .int .i64 0, .slice none 0 0]) ?_ 2 _ rfl; (with_reducible repeat (first | refine blk_drewN ?_ _ | refine blk_drew ?_ | refine blk_alloc ?_ _)); refine blk_put (cs := #[.int .i64 ((rd_T124 l0_1 x3_2).f0), .int .i64 0, .int .i64 0, .slice none 0 0]) ?_ 1 _ rfl; (with_reducible repeat (first | refine blk_drewN ?_ _ | refine blk_drew ?_ | refine blk_alloc ?_ _)); refine blk_put (cs := #[.int .i64 0, .int .i64 0, .int .i64 0, .slice none 0 0]) ?_ 0 _ rfl; (with_reducible repeat (first | refine blk_drewN ?_ _ | refine blk_drew ?_ | refine blk_alloc ?_ _)); exact BK395.out⟩, ⟨by repeat (first | (with_reducible first | exact HB.out | apply below_alloc | apply pw_below_drewN | apply below_drew1 | refine below_set ?_ GE393.out | refine below_set ?_ GE395.out) | exact HB.out)⟩⟩
                  · rw [if_neg c36] at H
                    have c36b0 : decide (65535 < ((rd_T124 l0_1 x3_2).f1)) = false := decide_eq_false c36
                    clear c36
                    by_cases c39 : (wrap64 (((rd_T124 l0_1 x3_2).f0) * ((rd_T124 l0_1 x3_2).f1))) < 5
                    · rw [if_pos c39] at H
                      have c39b0 : decide ((wrap64 (((rd_T124 l0_1 x3_2).f0) * ((rd_T124 l0_1 x3_2).f1))) < 5) = true := decide_eq_true c39
                      clear c39
                      have H' := Aside0.mk H
                      clear H
                      have hnb40 := NB395_393.out
                      have hnc40 := NB393_395.out
                      have hcz41_0 : w24.cell? ⟨gb395, 0, none⟩ = some (.int .i64 0) := (blk_cell BK395.out 0).trans rfl
                      have hcz41_1 : w24.cell? ⟨gb395, 1, none⟩ = some (.int .i64 0) := (blk_cell BK395.out 1).trans rfl
                      have hcz41_2 : w24.cell? ⟨gb395, 2, none⟩ = some (.int .i64 0) := (blk_cell BK395.out 2).trans rfl
                      have hcz41_3 : w24.cell? ⟨gb395, 3, none⟩ = some (.slice none 0 0) := (blk_cell BK395.out 3).trans rfl
                      have hfz41_0 := blk_frozen BK395.out 0
                      have hfz41_1 := blk_frozen BK395.out 1
                      have hfz41_2 := blk_frozen BK395.out 2
                      have hfz41_3 := blk_frozen BK395.out 3
                      go_wp2
                      repeat (go_quiet (fail); try go_wp2)
                      go_meet
                      case rel => exact ⟨_, (true), (by first | rfl | (simp; done) | (simp [*]; done)), H', ⟨by have := HJ1.out; have := HK2.out; first | omega | exact Nat.le_refl _⟩, ⟨by (with_reducible repeat (first | refine blk_drewN ?_ _ | refine blk_drew ?_ | refine blk_alloc ?_ _)); refine blk_far ?_ NB393_395.out _; (with_reducible repeat (first | refine blk_drewN ?_ _ | refine blk_drew ?_ | refine blk_alloc ?_ _)); refine blk_far ?_ NB393_395.out _; (with_reducible repeat (first | refine blk_drewN ?_ _ | refine blk_drew ?_ | refine blk_alloc ?_ _)); refine blk_far ?_ NB393_395.out _; (with_reducible repeat (first | refine blk_drewN ?_ _ | refine blk_drew ?_ | refine blk_alloc ?_ _)); refine blk_far ?_ NB393_395.out _; (with_reducible repeat (first | refine blk_drewN ?_ _ | refine blk_drew ?_ | refine blk_alloc ?_ _)); exact BK393.out⟩, ⟨by (with_reducible repeat (first | refine blk_drewN ?_ _ | refine blk_drew ?_ | refine blk_alloc ?_ _)); refine blk_put (cs := #[.int .i64 ((rd_T124 l0_1 x3_2).f0), .int .i64 ((rd_T124 l0_1 x3_2).f1), .int .i64 ((rd_T124 l0_1 x3_2).f2), .slice none 0 0]) ?_ 3 _ rfl; (with_reducible repeat (first | refine blk_drewN ?_ _ | refine blk_drew ?_ | refine blk_alloc ?_ _)); refine blk_put (cs := #[.int .i64 ((rd_T124 l0_1 x3_2).f0), .int .i64 ((rd_T124 l0_1 x3_2).f1), .int .i64 0, .slice none 0 0]) ?_ 2 _ rfl; (with_reducible repeat (first | refine blk_drewN ?_ _ | refine blk_drew ?_ | refine blk_alloc ?_ _)); refine blk_put (cs := #[.int .i64 ((rd_T124 l0_1 x3_2).f0), .int .i64 0, .int .i64 0, .slice none 0 0]) ?_ 1 _ rfl; (with_reducible repeat (first | refine blk_drewN ?_ _ | refine blk_drew ?_ | refine blk_alloc ?_ _)); refine blk_put (cs := #[.int .i64 0, .int .i64 0, .int .i64 0, .slice none 0 0]) ?_ 0 _ rfl; (with_reducible repeat (first | refine blk_drewN ?_ _ | refine blk_drew ?_ | refine blk_alloc ?_ _)); exact BK395.out⟩, ⟨by repeat (first | (with_reducible first | exact HB.out | apply below_alloc | apply pw_below_drewN | apply below_drew1 | refine below_set ?_ GE393.out | refine below_set ?_ GE395.out) | exact HB.out)⟩⟩
                    · rw [if_neg c39] at H
                      have c39b0 : decide ((wrap64 (((rd_T124 l0_1 x3_2).f0) * ((rd_T124 l0_1 x3_2).f1))) < 5) = false := decide_eq_false c39
                      clear c39
                      by_cases c42 : ((rd_T124 l0_1 x3_2).f2) < 0
                      · rw [if_pos c42] at H
                        have c42b0 : decide (((rd_T124 l0_1 x3_2).f2) < 0) = true := decide_eq_true c42
                        clear c42
                        have H' := Aside0.mk H
                        clear H
                        have hnb43 := NB395_393.out
                        have hnc43 := NB393_395.out
                        have hcz44_0 : w24.cell? ⟨gb395, 0, none⟩ = some (.int .i64 0) := (blk_cell BK395.out 0).trans rfl
                        have hcz44_1 : w24.cell? ⟨gb395, 1, none⟩ = some (.int .i64 0) := (blk_cell BK395.out 1).trans rfl
                        have hcz44_2 : w24.cell? ⟨gb395, 2, none⟩ = some (.int .i64 0) := (blk_cell BK395.out 2).trans rfl
                        have hcz44_3 : w24.cell? ⟨gb395, 3, none⟩ = some (.slice none 0 0) := (blk_cell BK395.out 3).trans rfl
                        have hfz44_0 := blk_frozen BK395.out 0
                        have hfz44_1 := blk_frozen BK395.out 1
                        have hfz44_2 := blk_frozen BK395.out 2
                        have hfz44_3 := blk_frozen BK395.out 3
                        go_wp2
                        repeat (go_quiet (fail); try go_wp2)
                        go_meet
                        case rel => exact ⟨_, (true), (by first | rfl | (simp; done) | (simp [*]; done)), H', ⟨by have := HJ1.out; have := HK2.out; first | omega | exact Nat.le_refl _⟩, ⟨by (with_reducible repeat (first | refine blk_drewN ?_ _ | refine blk_drew ?_ | refine blk_alloc ?_ _)); refine blk_far ?_ NB393_395.out _; (with_reducible repeat (first | refine blk_drewN ?_ _ | refine blk_drew ?_ | refine blk_alloc ?_ _)); refine blk_far ?_ NB393_395.out _; (with_reducible repeat (first | refine blk_drewN ?_ _ | refine blk_drew ?_ | refine blk_alloc ?_ _)); refine blk_far ?_ NB393_395.out _; (with_reducible repeat (first | refine blk_drewN ?_ _ | refine blk_drew ?_ | refine blk_alloc ?_ _)); refine blk_far ?_ NB393_395.out _; (with_reducible repeat (first | refine blk_drewN ?_ _ | refine blk_drew ?_ | refine blk_alloc ?_ _)); exact BK393.out⟩, ⟨by (with_reducible repeat (first | refine blk_drewN ?_ _ | refine blk_drew ?_ | refine blk_alloc ?_ _)); refine blk_put (cs := #[.int .i64 ((rd_T124 l0_1 x3_2).f0), .int .i64 ((rd_T124 l0_1 x3_2).f1), .int .i64 ((rd_T124 l0_1 x3_2).f2), .slice none 0 0]) ?_ 3 _ rfl; (with_reducible repeat (first | refine blk_drewN ?_ _ | refine blk_drew ?_ | refine blk_alloc ?_ _)); refine blk_put (cs := #[.int .i64 ((rd_T124 l0_1 x3_2).f0), .int .i64 ((rd_T124 l0_1 x3_2).f1), .int .i64 0, .slice none 0 0]) ?_ 2 _ rfl; (with_reducible repeat (first | refine blk_drewN ?_ _ | refine blk_drew ?_ | refine blk_alloc ?_ _)); refine blk_put (cs := #[.int .i64 ((rd_T124 l0_1 x3_2).f0), .int .i64 0, .int .i64 0, .slice none 0 0]) ?_ 1 _ rfl; (with_reducible repeat (first | refine blk_drewN ?_ _ | refine blk_drew ?_ | refine blk_alloc ?_ _)); refine blk_put (cs := #[.int .i64 0, .int .i64 0, .int .i64 0, .slice none 0 0]) ?_ 0 _ rfl; (with_reducible repeat (first | refine blk_drewN ?_ _ | refine blk_drew ?_ | refine blk_alloc ?_ _)); exact BK395.out⟩, ⟨by repeat (first | (with_reducible first | exact HB.out | apply below_alloc | apply pw_below_drewN | apply below_drew1 | refine below_set ?_ GE393.out | refine below_set ?_ GE395.out) | exact HB.out)⟩⟩
                      · rw [if_neg c42] at H
                        have c42b0 : decide (((rd_T124 l0_1 x3_2).f2) < 0) = false := decide_eq_false c42
                        clear c42
                        by_cases c45 : ((rd_T124 l0_1 x3_2).f2) ≥ a0_0
                        · rw [if_pos c45] at H
                          have c45b0 : decide (a0_0 ≤ ((rd_T124 l0_1 x3_2).f2)) = true := decide_eq_true c45
                          clear c45
                          have H' := Aside0.mk H
                          clear H
                          have hnb46 := NB395_393.out
                          have hnc46 := NB393_395.out
                          have hcz47_0 : w24.cell? ⟨gb395, 0, none⟩ = some (.int .i64 0) := (blk_cell BK395.out 0).trans rfl
                          have hcz47_1 : w24.cell? ⟨gb395, 1, none⟩ = some (.int .i64 0) := (blk_cell BK395.out 1).trans rfl
                          have hcz47_2 : w24.cell? ⟨gb395, 2, none⟩ = some (.int .i64 0) := (blk_cell BK395.out 2).trans rfl
                          have hcz47_3 : w24.cell? ⟨gb395, 3, none⟩ = some (.slice none 0 0) := (blk_cell BK395.out 3).trans rfl
                          have hfz47_0 := blk_frozen BK395.out 0
                          have hfz47_1 := blk_frozen BK395.out 1
                          have hfz47_2 := blk_frozen BK395.out 2
                          have hfz47_3 := blk_frozen BK395.out 3
                          have hcz48_0 : w24.cell? ⟨gb393, 0, none⟩ = some (.int .i64 a0_0) := (blk_cell BK393.out 0).trans rfl
                          have hcz48_1 : w24.cell? ⟨gb393, 1, none⟩ = some (.slice (some ad394) l0_1.length c0_1) := (blk_cell BK393.out 1).trans rfl
                          have hcz48_2 : w24.cell? ⟨gb393, 2, none⟩ = some (.int .i64 a0_2) := (blk_cell BK393.out 2).trans rfl
                          have hcz48_3 : w24.cell? ⟨gb393, 3, none⟩ = some (.int .i64 a0_3) := (blk_cell BK393.out 3).trans rfl
                          have hfz48_0 := blk_frozen BK393.out 0
                          have hfz48_1 := blk_frozen BK393.out 1
                          have hfz48_2 := blk_frozen BK393.out 2
                          have hfz48_3 := blk_frozen BK393.out 3
                          go_wp2
                          repeat (go_quiet (fail); try go_wp2)
                          go_meet
                          case rel => exact ⟨_, (true), (by first | rfl | (simp; done) | (simp [*]; done)), H', ⟨by have := HJ1.out; have := HK2.out; first | omega | exact Nat.le_refl _⟩, ⟨by (with_reducible repeat (first | refine blk_drewN ?_ _ | refine blk_drew ?_ | refine blk_alloc ?_ _)); refine blk_far ?_ NB393_395.out _; (with_reducible repeat (first | refine blk_drewN ?_ _ | refine blk_drew ?_ | refine blk_alloc ?_ _)); refine blk_far ?_ NB393_395.out _; (with_reducible repeat (first | refine blk_drewN ?_ _ | refine blk_drew ?_ | refine blk_alloc ?_ _)); refine blk_far ?_ NB393_395.out _; (with_reducible repeat (first | refine blk_drewN ?_ _ | refine blk_drew ?_ | refine blk_alloc ?_ _)); refine blk_far ?_ NB393_395.out _; (with_reducible repeat (first | refine blk_drewN ?_ _ | refine blk_drew ?_ | refine blk_alloc ?_ _)); exact BK393.out⟩, ⟨by (with_reducible repeat (first | refine blk_drewN ?_ _ | refine blk_drew ?_ | refine blk_alloc ?_ _)); refine blk_put (cs := #[.int .i64 ((rd_T124 l0_1 x3_2).f0), .int .i64 ((rd_T124 l0_1 x3_2).f1), .int .i64 ((rd_T124 l0_1 x3_2).f2), .slice none 0 0]) ?_ 3 _ rfl; (with_reducible repeat (first | refine blk_drewN ?_ _ | refine blk_drew ?_ | refine blk_alloc ?_ _)); refine blk_put (cs := #[.int .i64 ((rd_T124 l0_1 x3_2).f0), .int .i64 ((rd_T124 l0_1 x3_2).f1), .int .i64 0, .slice none 0 0]) ?_ 2 _ rfl; (with_reducible repeat (first | refine blk_drewN ?_ _ | refine blk_drew ?_ | refine blk_alloc ?_ _)); refine blk_put (cs := #[.int .i64 ((rd_T124 l0_1 x3_2).f0), .int .i64 0, .int .i64 0, .slice none 0 0]) ?_ 1 _ rfl; (with_reducible repeat (first | refine blk_drewN ?_ _ | refine blk_drew ?_ | refine blk_alloc ?_ _)); refine blk_put (cs := #[.int .i64 0, .int .i64 0, .int .i64 0, .slice none 0 0]) ?_ 0 _ rfl; (with_reducible repeat (first | refine blk_drewN ?_ _ | refine blk_drew ?_ | refine blk_alloc ?_ _)); exact BK395.out⟩, ⟨by repeat (first | (with_reducible first | exact HB.out | apply below_alloc | apply pw_below_drewN | apply below_drew1 | refine below_set ?_ GE393.out | refine below_set ?_ GE395.out) | exact HB.out)⟩⟩
                        · rw [if_neg c45] at H
                          have c45b0 : decide (a0_0 ≤ ((rd_T124 l0_1 x3_2).f2)) = false := decide_eq_false c45
                          clear c45
                          by_cases c49 : (((rd_T124 l0_1 x3_2).f3).length : Int) < 1
                          · rw [if_pos c49] at H
                            have c49b0 : decide ((((rd_T124 l0_1 x3_2).f3).length : Int) < 1) = true := decide_eq_true c49
                            have c49b1 : decide (((rd_T124 l0_1 x3_2).f3).length < 1) = true := decide_eq_true (by omega)
                            clear c49
                            have H' := Aside0.mk H
                            clear H
                            have hnb50 := NB395_393.out
                            have hnc50 := NB393_395.out
                            have hcz51_0 : w24.cell? ⟨gb395, 0, none⟩ = some (.int .i64 0) := (blk_cell BK395.out 0).trans rfl
                            have hcz51_1 : w24.cell? ⟨gb395, 1, none⟩ = some (.int .i64 0) := (blk_cell BK395.out 1).trans rfl
                            have hcz51_2 : w24.cell? ⟨gb395, 2, none⟩ = some (.int .i64 0) := (blk_cell BK395.out 2).trans rfl
                            have hcz51_3 : w24.cell? ⟨gb395, 3, none⟩ = some (.slice none 0 0) := (blk_cell BK395.out 3).trans rfl
                            have hfz51_0 := blk_frozen BK395.out 0
                            have hfz51_1 := blk_frozen BK395.out 1
                            have hfz51_2 := blk_frozen BK395.out 2
                            have hfz51_3 := blk_frozen BK395.out 3
                            have hcz52_0 : w24.cell? ⟨gb393, 0, none⟩ = some (.int .i64 a0_0) := (blk_cell BK393.out 0).trans rfl
                            have hcz52_1 : w24.cell? ⟨gb393, 1, none⟩ = some (.slice (some ad394) l0_1.length c0_1) := (blk_cell BK393.out 1).trans rfl
                            have hcz52_2 : w24.cell? ⟨gb393, 2, none⟩ = some (.int .i64 a0_2) := (blk_cell BK393.out 2).trans rfl
                            have hcz52_3 : w24.cell? ⟨gb393, 3, none⟩ = some (.int .i64 a0_3) := (blk_cell BK393.out 3).trans rfl
                            have hfz52_0 := blk_frozen BK393.out 0
                            have hfz52_1 := blk_frozen BK393.out 1
                            have hfz52_2 := blk_frozen BK393.out 2
                            have hfz52_3 := blk_frozen BK393.out 3
                            go_wp2
                            repeat (go_quiet (fail); try go_wp2)
                            go_meet
                            case rel => exact ⟨_, (true), (by first | rfl | (simp; done) | (simp [*]; done)), H', ⟨by have := HJ1.out; have := HK2.out; first | omega | exact Nat.le_refl _⟩, ⟨by (with_reducible repeat (first | refine blk_drewN ?_ _ | refine blk_drew ?_ | refine blk_alloc ?_ _)); refine blk_far ?_ NB393_395.out _; (with_reducible repeat (first | refine blk_drewN ?_ _ | refine blk_drew ?_ | refine blk_alloc ?_ _)); refine blk_far ?_ NB393_395.out _; (with_reducible repeat (first | refine blk_drewN ?_ _ | refine blk_drew ?_ | refine blk_alloc ?_ _)); refine blk_far ?_ NB393_395.out _; (with_reducible repeat (first | refine blk_drewN ?_ _ | refine blk_drew ?_ | refine blk_alloc ?_ _)); refine blk_far ?_ NB393_395.out _; (with_reducible repeat (first | refine blk_drewN ?_ _ | refine blk_drew ?_ | refine blk_alloc ?_ _)); exact BK393.out⟩, ⟨by (with_reducible repeat (first | refine blk_drewN ?_ _ | refine blk_drew ?_ | refine blk_alloc ?_ _)); refine blk_put (cs := #[.int .i64 ((rd_T124 l0_1 x3_2).f0), .int .i64 ((rd_T124 l0_1 x3_2).f1), .int .i64 ((rd_T124 l0_1 x3_2).f2), .slice none 0 0]) ?_ 3 _ rfl; (with_reducible repeat (first | refine blk_drewN ?_ _ | refine blk_drew ?_ | refine blk_alloc ?_ _)); refine blk_put (cs := #[.int .i64 ((rd_T124 l0_1 x3_2).f0), .int .i64 ((rd_T124 l0_1 x3_2).f1), .int .i64 0, .slice none 0 0]) ?_ 2 _ rfl; (with_reducible repeat (first | refine blk_drewN ?_ _ | refine blk_drew ?_ | refine blk_alloc ?_ _)); refine blk_put (cs := #[.int .i64 ((rd_T124 l0_1 x3_2).f0), .int .i64 0, .int .i64 0, .slice none 0 0]) ?_ 1 _ rfl; (with_reducible repeat (first | refine blk_drewN ?_ _ | refine blk_drew ?_ | refine blk_alloc ?_ _)); refine blk_put (cs := #[.int .i64 0, .int .i64 0, .int .i64 0, .slice none 0 0]) ?_ 0 _ rfl; (with_reducible repeat (first | refine blk_drewN ?_ _ | refine blk_drew ?_ | refine blk_alloc ?_ _)); exact BK395.out⟩, ⟨by repeat (first | (with_reducible first | exact HB.out | apply below_alloc | apply pw_below_drewN | apply below_drew1 | refine below_set ?_ GE393.out | refine below_set ?_ GE395.out) | exact HB.out)⟩⟩
                          · rw [if_neg c49] at H
                            have c49b0 : decide ((((rd_T124 l0_1 x3_2).f3).length : Int) < 1) = false := decide_eq_false c49
                            have c49b1 : decide (((rd_T124 l0_1 x3_2).f3).length < 1) = false := decide_eq_false (by omega)
                            clear c49
                            have H' := Aside0.mk H
                            clear H
                            have hnb53 := NB395_393.out
                            have hnc53 := NB393_395.out
                            have hcz54_0 : w24.cell? ⟨gb395, 0, none⟩ = some (.int .i64 0) := (blk_cell BK395.out 0).trans rfl
                            have hcz54_1 : w24.cell? ⟨gb395, 1, none⟩ = some (.int .i64 0) := (blk_cell BK395.out 1).trans rfl
                            have hcz54_2 : w24.cell? ⟨gb395, 2, none⟩ = some (.int .i64 0) := (blk_cell BK395.out 2).trans rfl
                            have hcz54_3 : w24.cell? ⟨gb395, 3, none⟩ = some (.slice none 0 0) := (blk_cell BK395.out 3).trans rfl
                            have hfz54_0 := blk_frozen BK395.out 0
                            have hfz54_1 := blk_frozen BK395.out 1
                            have hfz54_2 := blk_frozen BK395.out 2
                            have hfz54_3 := blk_frozen BK395.out 3
                            have hcz55_0 : w24.cell? ⟨gb393, 0, none⟩ = some (.int .i64 a0_0) := (blk_cell BK393.out 0).trans rfl
                            have hcz55_1 : w24.cell? ⟨gb393, 1, none⟩ = some (.slice (some ad394) l0_1.length c0_1) := (blk_cell BK393.out 1).trans rfl
                            have hcz55_2 : w24.cell? ⟨gb393, 2, none⟩ = some (.int .i64 a0_2) := (blk_cell BK393.out 2).trans rfl
                            have hcz55_3 : w24.cell? ⟨gb393, 3, none⟩ = some (.int .i64 a0_3) := (blk_cell BK393.out 3).trans rfl
                            have hfz55_0 := blk_frozen BK393.out 0
                            have hfz55_1 := blk_frozen BK393.out 1
                            have hfz55_2 := blk_frozen BK393.out 2
                            have hfz55_3 := blk_frozen BK393.out 3
                            go_wp2
                            repeat (go_quiet (fail); try go_wp2)
                            go_meet
                            case rel => exact ⟨_, (decide ((((rd_T124 l0_1 x3_2).f3).length : Int) > 8)), (by first | rfl | (simp; done) | (simp [*]; done)), H', ⟨by have := HJ1.out; have := HK2.out; first | omega | exact Nat.le_refl _⟩, ⟨by (with_reducible repeat (first | refine blk_drewN ?_ _ | refine blk_drew ?_ | refine blk_alloc ?_ _)); refine blk_far ?_ NB393_395.out _; (with_reducible repeat (first | refine blk_drewN ?_ _ | refine blk_drew ?_ | refine blk_alloc ?_ _)); refine blk_far ?_ NB393_395.out _; (with_reducible repeat (first | refine blk_drewN ?_ _ | refine blk_drew ?_ | refine blk_alloc ?_ _)); refine blk_far ?_ NB393_395.out _; (with_reducible repeat (first | refine blk_drewN ?_ _ | refine blk_drew ?_ | refine blk_alloc ?_ _)); refine blk_far ?_ NB393_395.out _; (with_reducible repeat (first | refine blk_drewN ?_ _ | refine blk_drew ?_ | refine blk_alloc ?_ _)); exact BK393.out⟩, ⟨by (with_reducible repeat (first | refine blk_drewN ?_ _ | refine blk_drew ?_ | refine blk_alloc ?_ _)); refine blk_put (cs := #[.int .i64 ((rd_T124 l0_1 x3_2).f0), .int .i64 ((rd_T124 l0_1 x3_2).f1), .int .i64 ((rd_T124 l0_1 x3_2).f2), .slice none 0 0]) ?_ 3 _ rfl; (with_reducible repeat (first | refine blk_drewN ?_ _ | refine blk_drew ?_ | refine blk_alloc ?_ _)); refine blk_put (cs := #[.int .i64 ((rd_T124 l0_1 x3_2).f0), .int .i64 ((rd_T124 l0_1 x3_2).f1), .int .i64 0, .slice none 0 0]) ?_ 2 _ rfl; (with_reducible repeat (first | refine blk_drewN ?_ _ | refine blk_drew ?_ | refine blk_alloc ?_ _)); refine blk_put (cs := #[.int .i64 ((rd_T124 l0_1 x3_2).f0), .int .i64 0, .int .i64 0, .slice none 0 0]) ?_ 1 _ rfl; (with_reducible repeat (first | refine blk_drewN ?_ _ | refine blk_drew ?_ | refine blk_alloc ?_ _)); refine blk_put (cs := #[.int .i64 0, .int .i64 0, .int .i64 0, .slice none 0 0]) ?_ 0 _ rfl; (with_reducible repeat (first | refine blk_drewN ?_ _ | refine blk_drew ?_ | refine blk_alloc ?_ _)); exact BK395.out⟩, ⟨by repeat (first | (with_reducible first | exact HB.out | apply below_alloc | apply pw_below_drewN | apply below_drew1 | refine below_set ?_ GE393.out | refine below_set ?_ GE395.out) | exact HB.out)⟩⟩
           case rest =>
            clear HC22
            try clear c1
            try clear c2
            try clear p2
            try clear c3
            try clear p3
            try clear q3
            try clear hx3
            try clear c4
            try clear c4b0
            try clear c5
            try clear c6
            try clear c6b0
            try clear p6
            try clear c8
            try clear c8b0
            try clear c8b1
            try clear c10
            try clear c10b0
            try clear c10b1
            try clear c12
            try clear c12b0
            try clear c14
            try clear c14b0
            try clear c16
            try clear c16b0
            try clear c19
            try clear c20
            try clear c20b0
            try clear c21
            try clear c21b0
            try clear c25
            try clear c27
            try clear c27b0
            try clear c28
            try clear c30
            try clear c30b0
            try clear c31
            try clear c33
            try clear c33b0
            try clear c34
            try clear c36
            try clear c36b0
            try clear c37
            try clear c39
            try clear c39b0
            try clear p39
            try clear q39
            try clear hx39
            try clear c40
            try clear c42
            try clear c42b0
            try clear c43
            try clear c45
            try clear c45b0
            try clear c46
            try clear c49
            try clear c49b0
            try clear c49b1
            try clear c50
            try clear c53
            try clear hcz11_0
            try clear hcz11_1
            try clear hcz11_2
            try clear hcz11_3
            try clear hcz13_0
            try clear hcz13_1
            try clear hcz13_2
            try clear hcz13_3
            try clear hcz15_0
            try clear hcz15_1
            try clear hcz15_2
            try clear hcz15_3
            try clear hcz17_0
            try clear hcz17_1
            try clear hcz17_2
            try clear hcz17_3
            try clear hcz18_0
            try clear hcz18_1
            try clear hcz18_2
            try clear hcz18_3
            try clear hcz23_0
            try clear hcz23_1
            try clear hcz23_2
            try clear hcz23_3
            try clear hcz26_0
            try clear hcz26_1
            try clear hcz26_2
            try clear hcz26_3
            try clear hcz29_0
            try clear hcz29_1
            try clear hcz29_2
            try clear hcz29_3
            try clear hcz32_0
            try clear hcz32_1
            try clear hcz32_2
            try clear hcz32_3
            try clear hcz35_0
            try clear hcz35_1
            try clear hcz35_2
            try clear hcz35_3
            try clear hcz38_0
            try clear hcz38_1
            try clear hcz38_2
            try clear hcz38_3
            try clear hcz41_0
            try clear hcz41_1
            try clear hcz41_2
            try clear hcz41_3
            try clear hcz44_0
            try clear hcz44_1
            try clear hcz44_2
            try clear hcz44_3
            try clear hcz47_0
            try clear hcz47_1
            try clear hcz47_2
            try clear hcz47_3
            try clear hcz48_0
            try clear hcz48_1
            try clear hcz48_2
            try clear hcz48_3
            try clear hcz51_0
            try clear hcz51_1
            try clear hcz51_2
            try clear hcz51_3
            try clear hcz52_0
            try clear hcz52_1
            try clear hcz52_2
            try clear hcz52_3
            try clear hcz54_0
            try clear hcz54_1
            try clear hcz54_2
            try clear hcz54_3
            try clear hcz55_0
            try clear hcz55_1
            try clear hcz55_2
            try clear hcz55_3
            try clear hcz5_0
            try clear hcz5_1
            try clear hcz5_2
            try clear hcz5_3
            try clear hcz7_0
            try clear hcz7_1
            try clear hcz7_2
            try clear hcz7_3
            try clear hcz9_0
            try clear hcz9_1
            try clear hcz9_2
            try clear hcz9_3
            try clear hfz11_0
            try clear hfz11_1
            try clear hfz11_2
            try clear hfz11_3
            try clear hfz13_0
            try clear hfz13_1
            try clear hfz13_2
            try clear hfz13_3
            try clear hfz15_0
            try clear hfz15_1
            try clear hfz15_2
            try clear hfz15_3
            try clear hfz17_0
            try clear hfz17_1
            try clear hfz17_2
            try clear hfz17_3
            try clear hfz18_0
            try clear hfz18_1
            try clear hfz18_2
            try clear hfz18_3
            try clear hfz23_0
            try clear hfz23_1
            try clear hfz23_2
            try clear hfz23_3
            try clear hfz26_0
            try clear hfz26_1
            try clear hfz26_2
            try clear hfz26_3
            try clear hfz29_0
            try clear hfz29_1
            try clear hfz29_2
            try clear hfz29_3
            try clear hfz32_0
            try clear hfz32_1
            try clear hfz32_2
            try clear hfz32_3
            try clear hfz35_0
            try clear hfz35_1
            try clear hfz35_2
            try clear hfz35_3
            try clear hfz38_0
            try clear hfz38_1
            try clear hfz38_2
            try clear hfz38_3
            try clear hfz41_0
            try clear hfz41_1
            try clear hfz41_2
            try clear hfz41_3
            try clear hfz44_0
            try clear hfz44_1
            try clear hfz44_2
            try clear hfz44_3
            try clear hfz47_0
            try clear hfz47_1
            try clear hfz47_2
            try clear hfz47_3
            try clear hfz48_0
            try clear hfz48_1
            try clear hfz48_2
            try clear hfz48_3
            try clear hfz51_0
            try clear hfz51_1
            try clear hfz51_2
            try clear hfz51_3
            try clear hfz52_0
            try clear hfz52_1
            try clear hfz52_2
            try clear hfz52_3
            try clear hfz54_0
            try clear hfz54_1
            try clear hfz54_2
            try clear hfz54_3
            try clear hfz55_0
            try clear hfz55_1
            try clear hfz55_2
            try clear hfz55_3
            try clear hfz5_0
            try clear hfz5_1
            try clear hfz5_2
            try clear hfz5_3
            try clear hfz7_0
            try clear hfz7_1
            try clear hfz7_2
            try clear hfz7_3
            try clear hfz9_0
            try clear hfz9_1
            try clear hfz9_2
            try clear hfz9_3
            try clear hx394_0
            try clear hx394_1
            try clear hx394_2
            try clear hx394_3
            try clear p2
            try clear p394
            try clear q394
            obtain ⟨kq, x108_21, rfl, HA, HJ21, BK393, BK395, HB⟩ := hcut
            cases kq with
            | zero => exact absurd HA.out (by simp [braidworkref19_Config.j2])
            | succ kj21 =>
             have H := HA.out
             clear HA
             simp only [braidworkref19_Config.j2] at H
             by_cases c56 : x108_21 = true
             · subst c56
               have H1 : (some false) = some r := by rw [if_pos rfl] at H; exact H
               clear H
               have H := H1
               clear H1
               obtain rfl := Option.some.inj H
               go_wp2
               repeat (go_quiet (fail); try go_wp2)
               go_ret
               exact ⟨by first | rfl | (simp [errW_none, errW_some] <;> rfl) | (simp [*, errW_none, errW_some] <;> rfl), by repeat (first | (with_reducible first | exact HB.out | apply below_alloc | apply pw_below_drewN | apply below_drew1 | refine below_set ?_ GE393.out | refine below_set ?_ GE395.out) | exact HB.out)⟩
             · replace c56 := Bool.eq_false_iff.mpr c56
               subst c56
               have H1 : (braidworkref19_Config.l1 kj21 x3_2 (-1) 0 a0_0 l0_1 a0_2 a0_3 ((rd_T124 l0_1 x3_2).f0) ((rd_T124 l0_1 x3_2).f1) ((rd_T124 l0_1 x3_2).f2) ((rd_T124 l0_1 x3_2).f3)) = some r := by rw [if_neg (show ¬ (false = true) by decide)] at H; exact H
               clear H
               have H := H1
               clear H1
               have H' := Aside0.mk H
               clear H
               go_wp2
               repeat (go_quiet (fail); try go_wp2)
               go_loopg [5, 6] kj21 (fun kq v5 v6 w' => ∃ (x5_4 : Int) (x6_4 : Int), v5 = .int .i64 x5_4 ∧ v6 = .int .i64 x6_4 ∧ Aside0 (braidworkref19_Config.l1 kq x3_2 x5_4 x6_4 a0_0 l0_1 a0_2 a0_3 ((rd_T124 l0_1 x3_2).f0) ((rd_T124 l0_1 x3_2).f1) ((rd_T124 l0_1 x3_2).f2) ((rd_T124 l0_1 x3_2).f3) = some r) ∧ Aside0 (kq ≤ kj21) ∧ Aside0 (w'.heap[gb393]? = some (.cells #[.int .i64 a0_0, (.slice (some ad394) l0_1.length c0_1), .int .i64 a0_2, .int .i64 a0_3] 24 (0, 0))) ∧ Aside0 (w'.heap[gb395]? = some (.cells #[.int .i64 ((rd_T124 l0_1 x3_2).f0), .int .i64 ((rd_T124 l0_1 x3_2).f1), .int .i64 ((rd_T124 l0_1 x3_2).f2), (.slice A394_3 ((rd_T124 l0_1 x3_2).f3).length c394_3)] 124 (0, 0))) ∧ Aside0 (Below w.heap.size w w'))
               case atStart => exact ⟨((-1)), (0), (by first | rfl | (simp; done) | (simp [*]; done)), (by first | rfl | (simp; done) | (simp [*]; done)), H', ⟨Nat.le_refl _⟩, ⟨by (with_reducible repeat (first | refine blk_drewN ?_ _ | refine blk_drew ?_ | refine blk_alloc ?_ _)); exact BK393.out⟩, ⟨by (with_reducible repeat (first | refine blk_drewN ?_ _ | refine blk_drew ?_ | refine blk_alloc ?_ _)); exact BK395.out⟩, ⟨by repeat (first | (with_reducible first | exact HB.out | apply below_alloc | apply pw_below_drewN | apply below_drew1 | refine below_set ?_ GE393.out | refine below_set ?_ GE395.out) | exact HB.out)⟩⟩
               case round =>
                clear H'
                try clear c1
                try clear c2
                try clear p2
                try clear c3
                try clear p3
                try clear q3
                try clear hx3
                try clear c4
                try clear c4b0
                try clear c5
                try clear c6
                try clear c6b0
                try clear p6
                try clear c8
                try clear c8b0
                try clear c8b1
                try clear c10
                try clear c10b0
                try clear c10b1
                try clear c12
                try clear c12b0
                try clear c14
                try clear c14b0
                try clear c16
                try clear c16b0
                try clear c19
                try clear c20
                try clear c20b0
                try clear c21
                try clear c21b0
                try clear c25
                try clear c27
                try clear c27b0
                try clear c28
                try clear c30
                try clear c30b0
                try clear c31
                try clear c33
                try clear c33b0
                try clear c34
                try clear c36
                try clear c36b0
                try clear c37
                try clear c39
                try clear c39b0
                try clear p39
                try clear q39
                try clear hx39
                try clear c40
                try clear c42
                try clear c42b0
                try clear c43
                try clear c45
                try clear c45b0
                try clear c46
                try clear c49
                try clear c49b0
                try clear c49b1
                try clear c50
                try clear c53
                try clear c56
                try clear hcz11_0
                try clear hcz11_1
                try clear hcz11_2
                try clear hcz11_3
                try clear hcz13_0
                try clear hcz13_1
                try clear hcz13_2
                try clear hcz13_3
                try clear hcz15_0
                try clear hcz15_1
                try clear hcz15_2
                try clear hcz15_3
                try clear hcz17_0
                try clear hcz17_1
                try clear hcz17_2
                try clear hcz17_3
                try clear hcz18_0
                try clear hcz18_1
                try clear hcz18_2
                try clear hcz18_3
                try clear hcz23_0
                try clear hcz23_1
                try clear hcz23_2
                try clear hcz23_3
                try clear hcz26_0
                try clear hcz26_1
                try clear hcz26_2
                try clear hcz26_3
                try clear hcz29_0
                try clear hcz29_1
                try clear hcz29_2
                try clear hcz29_3
                try clear hcz32_0
                try clear hcz32_1
                try clear hcz32_2
                try clear hcz32_3
                try clear hcz35_0
                try clear hcz35_1
                try clear hcz35_2
                try clear hcz35_3
                try clear hcz38_0
                try clear hcz38_1
                try clear hcz38_2
                try clear hcz38_3
                try clear hcz41_0
                try clear hcz41_1
                try clear hcz41_2
                try clear hcz41_3
                try clear hcz44_0
                try clear hcz44_1
                try clear hcz44_2
                try clear hcz44_3
                try clear hcz47_0
                try clear hcz47_1
                try clear hcz47_2
                try clear hcz47_3
                try clear hcz48_0
                try clear hcz48_1
                try clear hcz48_2
                try clear hcz48_3
                try clear hcz51_0
                try clear hcz51_1
                try clear hcz51_2
                try clear hcz51_3
                try clear hcz52_0
                try clear hcz52_1
                try clear hcz52_2
                try clear hcz52_3
                try clear hcz54_0
                try clear hcz54_1
                try clear hcz54_2
                try clear hcz54_3
                try clear hcz55_0
                try clear hcz55_1
                try clear hcz55_2
                try clear hcz55_3
                try clear hcz5_0
                try clear hcz5_1
                try clear hcz5_2
                try clear hcz5_3
                try clear hcz7_0
                try clear hcz7_1
                try clear hcz7_2
                try clear hcz7_3
                try clear hcz9_0
                try clear hcz9_1
                try clear hcz9_2
                try clear hcz9_3
                try clear hfz11_0
                try clear hfz11_1
                try clear hfz11_2
                try clear hfz11_3
                try clear hfz13_0
                try clear hfz13_1
                try clear hfz13_2
                try clear hfz13_3
                try clear hfz15_0
                try clear hfz15_1
                try clear hfz15_2
                try clear hfz15_3
                try clear hfz17_0
                try clear hfz17_1
                try clear hfz17_2
                try clear hfz17_3
                try clear hfz18_0
                try clear hfz18_1
                try clear hfz18_2
                try clear hfz18_3
                try clear hfz23_0
                try clear hfz23_1
                try clear hfz23_2
                try clear hfz23_3
                try clear hfz26_0
                try clear hfz26_1
                try clear hfz26_2
                try clear hfz26_3
                try clear hfz29_0
                try clear hfz29_1
                try clear hfz29_2
                try clear hfz29_3
                try clear hfz32_0
                try clear hfz32_1
                try clear hfz32_2
                try clear hfz32_3
                try clear hfz35_0
                try clear hfz35_1
                try clear hfz35_2
                try clear hfz35_3
                try clear hfz38_0
                try clear hfz38_1
                try clear hfz38_2
                try clear hfz38_3
                try clear hfz41_0
                try clear hfz41_1
                try clear hfz41_2
                try clear hfz41_3
                try clear hfz44_0
                try clear hfz44_1
                try clear hfz44_2
                try clear hfz44_3
                try clear hfz47_0
                try clear hfz47_1
                try clear hfz47_2
                try clear hfz47_3
                try clear hfz48_0
                try clear hfz48_1
                try clear hfz48_2
                try clear hfz48_3
                try clear hfz51_0
                try clear hfz51_1
                try clear hfz51_2
                try clear hfz51_3
                try clear hfz52_0
                try clear hfz52_1
                try clear hfz52_2
                try clear hfz52_3
                try clear hfz54_0
                try clear hfz54_1
                try clear hfz54_2
                try clear hfz54_3
                try clear hfz55_0
                try clear hfz55_1
                try clear hfz55_2
                try clear hfz55_3
                try clear hfz5_0
                try clear hfz5_1
                try clear hfz5_2
                try clear hfz5_3
                try clear hfz7_0
                try clear hfz7_1
                try clear hfz7_2
                try clear hfz7_3
                try clear hfz9_0
                try clear hfz9_1
                try clear hfz9_2
                try clear hfz9_3
                try clear hx394_0
                try clear hx394_1
                try clear hx394_2
                try clear hx394_3
                try clear p2
                try clear p3
                try clear p39
                try clear p394
                try clear p6
                try clear q3
                try clear q39
                try clear q394
                obtain ⟨x5_4, x6_4, rfl, rfl, HA, HK4, BK393, BK395, HB⟩ := hrel
                cases gk with
                | zero => exact absurd HA.out (by simp [braidworkref19_Config.l1])
                | succ k4 =>
                 have H := HA.out
                 clear HA
                 simp only [braidworkref19_Config.l1] at H
                 by_cases c57 : x6_4 < (((rd_T124 l0_1 x3_2).f3).length : Int)
                 · rw [if_pos c57] at H
                   have c57b0 : decide (x6_4 < (((rd_T124 l0_1 x3_2).f3).length : Int)) = true := decide_eq_true c57
                   clear c57
                   by_cases c58 : 0 ≤ x6_4
                   · rw [if_pos c58] at H
                     have c58b0 : decide (0 ≤ x6_4) = true := decide_eq_true c58
                     clear c58
                     by_cases c59 : (rd ((rd_T124 l0_1 x3_2).f3) x6_4) ≤ x5_4
                     · rw [if_pos c59] at H
                       have c59b0 : decide ((rd ((rd_T124 l0_1 x3_2).f3) x6_4) ≤ x5_4) = true := decide_eq_true c59
                       clear c59
                       obtain rfl := Option.some.inj H
                       have hnb60 := NB395_393.out
                       have hnc60 := NB393_395.out
                       have hcz61_0 : wr.cell? ⟨gb395, 0, none⟩ = some (.int .i64 ((rd_T124 l0_1 x3_2).f0)) := (blk_cell BK395.out 0).trans rfl
                       have hcz61_1 : wr.cell? ⟨gb395, 1, none⟩ = some (.int .i64 ((rd_T124 l0_1 x3_2).f1)) := (blk_cell BK395.out 1).trans rfl
                       have hcz61_2 : wr.cell? ⟨gb395, 2, none⟩ = some (.int .i64 ((rd_T124 l0_1 x3_2).f2)) := (blk_cell BK395.out 2).trans rfl
                       have hcz61_3 : wr.cell? ⟨gb395, 3, none⟩ = some (.slice A394_3 ((rd_T124 l0_1 x3_2).f3).length c394_3) := (blk_cell BK395.out 3).trans rfl
                       have hfz61_0 := blk_frozen BK395.out 0
                       have hfz61_1 := blk_frozen BK395.out 1
                       have hfz61_2 := blk_frozen BK395.out 2
                       have hfz61_3 := blk_frozen BK395.out 3
                       have p396 : 0 ≤ (x6_4 : Int) := of_decide_eq_true (by first | (with_reducible assumption) | assumption)
                       have q396 : x6_4 < (((rd_T124 l0_1 x3_2).f3).length : Int) := of_decide_eq_true (by first | (with_reducible assumption) | assumption)
                       obtain ⟨ad396, e396, hx396_0⟩ := Kd.at_int HR394_3.out x6_4 p396 q396
                       cases e396
                       replace hx396_0 := (HB.out.cell (World.block_lt_of_cell? w _ hx396_0)).trans hx396_0
                       replace p396 := eq_true p396
                       replace q396 := eq_true q396
                       go_wp2
                       repeat (go_quiet (fail); try go_wp2)
                       go_ret
                       exact ⟨by first | rfl | (simp [errW_none, errW_some] <;> rfl) | (simp [*, errW_none, errW_some] <;> rfl), by repeat (first | (with_reducible first | exact HB.out | apply below_alloc | apply pw_below_drewN | apply below_drew1 | refine below_set ?_ GE393.out | refine below_set ?_ GE395.out) | exact HB.out)⟩
                     · rw [if_neg c59] at H
                       have c59b0 : decide ((rd ((rd_T124 l0_1 x3_2).f3) x6_4) ≤ x5_4) = false := decide_eq_false c59
                       clear c59
                       by_cases c62 : (rd ((rd_T124 l0_1 x3_2).f3) x6_4) ≥ a0_0
                       · rw [if_pos c62] at H
                         have c62b0 : decide (a0_0 ≤ (rd ((rd_T124 l0_1 x3_2).f3) x6_4)) = true := decide_eq_true c62
                         clear c62
                         obtain rfl := Option.some.inj H
                         have hnb63 := NB395_393.out
                         have hnc63 := NB393_395.out
                         have hcz64_0 : wr.cell? ⟨gb395, 0, none⟩ = some (.int .i64 ((rd_T124 l0_1 x3_2).f0)) := (blk_cell BK395.out 0).trans rfl
                         have hcz64_1 : wr.cell? ⟨gb395, 1, none⟩ = some (.int .i64 ((rd_T124 l0_1 x3_2).f1)) := (blk_cell BK395.out 1).trans rfl
                         have hcz64_2 : wr.cell? ⟨gb395, 2, none⟩ = some (.int .i64 ((rd_T124 l0_1 x3_2).f2)) := (blk_cell BK395.out 2).trans rfl
                         have hcz64_3 : wr.cell? ⟨gb395, 3, none⟩ = some (.slice A394_3 ((rd_T124 l0_1 x3_2).f3).length c394_3) := (blk_cell BK395.out 3).trans rfl
                         have hfz64_0 := blk_frozen BK395.out 0
                         have hfz64_1 := blk_frozen BK395.out 1
                         have hfz64_2 := blk_frozen BK395.out 2
                         have hfz64_3 := blk_frozen BK395.out 3
                         have p396 : 0 ≤ (x6_4 : Int) := of_decide_eq_true (by first | (with_reducible assumption) | assumption)
                         have q396 : x6_4 < (((rd_T124 l0_1 x3_2).f3).length : Int) := of_decide_eq_true (by first | (with_reducible assumption) | assumption)
                         obtain ⟨ad396, e396, hx396_0⟩ := Kd.at_int HR394_3.out x6_4 p396 q396
                         cases e396
                         replace hx396_0 := (HB.out.cell (World.block_lt_of_cell? w _ hx396_0)).trans hx396_0
                         replace p396 := eq_true p396
                         replace q396 := eq_true q396
                         have p397 : 0 ≤ (x6_4 : Int) := of_decide_eq_true (by first | (with_reducible assumption) | assumption)
                         have q397 : x6_4 < (((rd_T124 l0_1 x3_2).f3).length : Int) := of_decide_eq_true (by first | (with_reducible assumption) | assumption)
                         obtain ⟨ad397, e397, hx397_0⟩ := Kd.at_int HR394_3.out x6_4 p397 q397
                         obtain rfl : ad396 = ad397 := (by injection e397)
                         replace hx397_0 := (HB.out.cell (World.block_lt_of_cell? w _ hx397_0)).trans hx397_0
                         replace p397 := eq_true p397
                         replace q397 := eq_true q397
                         have hcz65_0 : wr.cell? ⟨gb393, 0, none⟩ = some (.int .i64 a0_0) := (blk_cell BK393.out 0).trans rfl
                         have hcz65_1 : wr.cell? ⟨gb393, 1, none⟩ = some (.slice (some ad394) l0_1.length c0_1) := (blk_cell BK393.out 1).trans rfl
                         have hcz65_2 : wr.cell? ⟨gb393, 2, none⟩ = some (.int .i64 a0_2) := (blk_cell BK393.out 2).trans rfl
                         have hcz65_3 : wr.cell? ⟨gb393, 3, none⟩ = some (.int .i64 a0_3) := (blk_cell BK393.out 3).trans rfl
                         have hfz65_0 := blk_frozen BK393.out 0
                         have hfz65_1 := blk_frozen BK393.out 1
                         have hfz65_2 := blk_frozen BK393.out 2
                         have hfz65_3 := blk_frozen BK393.out 3
                         go_wp2
                         repeat (go_quiet (fail); try go_wp2)
                         go_ret
                         exact ⟨by first | rfl | (simp [errW_none, errW_some] <;> rfl) | (simp [*, errW_none, errW_some] <;> rfl), by repeat (first | (with_reducible first | exact HB.out | apply below_alloc | apply pw_below_drewN | apply below_drew1 | refine below_set ?_ GE393.out | refine below_set ?_ GE395.out) | exact HB.out)⟩
                       · rw [if_neg c62] at H
                         have c62b0 : decide (a0_0 ≤ (rd ((rd_T124 l0_1 x3_2).f3) x6_4)) = false := decide_eq_false c62
                         clear c62
                         by_cases c66 : (rd ((rd_T124 l0_1 x3_2).f3) x6_4) = ((rd_T124 l0_1 x3_2).f2)
                         · rw [if_pos c66] at H
                           have c66b0 : ((rd ((rd_T124 l0_1 x3_2).f3) x6_4) == ((rd_T124 l0_1 x3_2).f2)) = true := beq_iff_eq.mpr c66
                           have c66b1 : ((rd ((rd_T124 l0_1 x3_2).f3) x6_4) != ((rd_T124 l0_1 x3_2).f2)) = false := bne_eq_false_iff_eq.mpr c66
                           clear c66
                           obtain rfl := Option.some.inj H
                           have hnb67 := NB395_393.out
                           have hnc67 := NB393_395.out
                           have hcz68_0 : wr.cell? ⟨gb395, 0, none⟩ = some (.int .i64 ((rd_T124 l0_1 x3_2).f0)) := (blk_cell BK395.out 0).trans rfl
                           have hcz68_1 : wr.cell? ⟨gb395, 1, none⟩ = some (.int .i64 ((rd_T124 l0_1 x3_2).f1)) := (blk_cell BK395.out 1).trans rfl
                           have hcz68_2 : wr.cell? ⟨gb395, 2, none⟩ = some (.int .i64 ((rd_T124 l0_1 x3_2).f2)) := (blk_cell BK395.out 2).trans rfl
                           have hcz68_3 : wr.cell? ⟨gb395, 3, none⟩ = some (.slice A394_3 ((rd_T124 l0_1 x3_2).f3).length c394_3) := (blk_cell BK395.out 3).trans rfl
                           have hfz68_0 := blk_frozen BK395.out 0
                           have hfz68_1 := blk_frozen BK395.out 1
                           have hfz68_2 := blk_frozen BK395.out 2
                           have hfz68_3 := blk_frozen BK395.out 3
                           have p396 : 0 ≤ (x6_4 : Int) := of_decide_eq_true (by first | (with_reducible assumption) | assumption)
                           have q396 : x6_4 < (((rd_T124 l0_1 x3_2).f3).length : Int) := of_decide_eq_true (by first | (with_reducible assumption) | assumption)
                           obtain ⟨ad396, e396, hx396_0⟩ := Kd.at_int HR394_3.out x6_4 p396 q396
                           cases e396
                           replace hx396_0 := (HB.out.cell (World.block_lt_of_cell? w _ hx396_0)).trans hx396_0
                           replace p396 := eq_true p396
                           replace q396 := eq_true q396
                           have p397 : 0 ≤ (x6_4 : Int) := of_decide_eq_true (by first | (with_reducible assumption) | assumption)
                           have q397 : x6_4 < (((rd_T124 l0_1 x3_2).f3).length : Int) := of_decide_eq_true (by first | (with_reducible assumption) | assumption)
                           obtain ⟨ad397, e397, hx397_0⟩ := Kd.at_int HR394_3.out x6_4 p397 q397
                           obtain rfl : ad396 = ad397 := (by injection e397)
                           replace hx397_0 := (HB.out.cell (World.block_lt_of_cell? w _ hx397_0)).trans hx397_0
                           replace p397 := eq_true p397
                           replace q397 := eq_true q397
                           have hcz69_0 : wr.cell? ⟨gb393, 0, none⟩ = some (.int .i64 a0_0) := (blk_cell BK393.out 0).trans rfl
                           have hcz69_1 : wr.cell? ⟨gb393, 1, none⟩ = some (.slice (some ad394) l0_1.length c0_1) := (blk_cell BK393.out 1).trans rfl
                           have hcz69_2 : wr.cell? ⟨gb393, 2, none⟩ = some (.int .i64 a0_2) := (blk_cell BK393.out 2).trans rfl
                           have hcz69_3 : wr.cell? ⟨gb393, 3, none⟩ = some (.int .i64 a0_3) := (blk_cell BK393.out 3).trans rfl
                           have hfz69_0 := blk_frozen BK393.out 0
                           have hfz69_1 := blk_frozen BK393.out 1
                           have hfz69_2 := blk_frozen BK393.out 2
                           have hfz69_3 := blk_frozen BK393.out 3
                           have p398 : 0 ≤ (x6_4 : Int) := of_decide_eq_true (by first | (with_reducible assumption) | assumption)
                           have q398 : x6_4 < (((rd_T124 l0_1 x3_2).f3).length : Int) := of_decide_eq_true (by first | (with_reducible assumption) | assumption)
                           obtain ⟨ad398, e398, hx398_0⟩ := Kd.at_int HR394_3.out x6_4 p398 q398
                           obtain rfl : ad396 = ad398 := (by injection e398)
                           replace hx398_0 := (HB.out.cell (World.block_lt_of_cell? w _ hx398_0)).trans hx398_0
                           replace p398 := eq_true p398
                           replace q398 := eq_true q398
                           go_wp2
                           repeat (go_quiet (fail); try go_wp2)
                           go_ret
                           exact ⟨by first | rfl | (simp [errW_none, errW_some] <;> rfl) | (simp [*, errW_none, errW_some] <;> rfl), by repeat (first | (with_reducible first | exact HB.out | apply below_alloc | apply pw_below_drewN | apply below_drew1 | refine below_set ?_ GE393.out | refine below_set ?_ GE395.out) | exact HB.out)⟩
                         · rw [if_neg c66] at H
                           have c66b0 : ((rd ((rd_T124 l0_1 x3_2).f3) x6_4) == ((rd_T124 l0_1 x3_2).f2)) = false := beq_eq_false_iff_ne.mpr c66
                           have c66b1 : ((rd ((rd_T124 l0_1 x3_2).f3) x6_4) != ((rd_T124 l0_1 x3_2).f2)) = true := bne_iff_ne.mpr c66
                           have H' := Aside0.mk H
                           clear H
                           have hnb70 := NB395_393.out
                           have hnc70 := NB393_395.out
                           have hcz71_0 : wr.cell? ⟨gb395, 0, none⟩ = some (.int .i64 ((rd_T124 l0_1 x3_2).f0)) := (blk_cell BK395.out 0).trans rfl
                           have hcz71_1 : wr.cell? ⟨gb395, 1, none⟩ = some (.int .i64 ((rd_T124 l0_1 x3_2).f1)) := (blk_cell BK395.out 1).trans rfl
                           have hcz71_2 : wr.cell? ⟨gb395, 2, none⟩ = some (.int .i64 ((rd_T124 l0_1 x3_2).f2)) := (blk_cell BK395.out 2).trans rfl
                           have hcz71_3 : wr.cell? ⟨gb395, 3, none⟩ = some (.slice A394_3 ((rd_T124 l0_1 x3_2).f3).length c394_3) := (blk_cell BK395.out 3).trans rfl
                           have hfz71_0 := blk_frozen BK395.out 0
                           have hfz71_1 := blk_frozen BK395.out 1
                           have hfz71_2 := blk_frozen BK395.out 2
                           have hfz71_3 := blk_frozen BK395.out 3
                           have p396 : 0 ≤ (x6_4 : Int) := of_decide_eq_true (by first | (with_reducible assumption) | assumption)
                           have q396 : x6_4 < (((rd_T124 l0_1 x3_2).f3).length : Int) := of_decide_eq_true (by first | (with_reducible assumption) | assumption)
                           obtain ⟨ad396, e396, hx396_0⟩ := Kd.at_int HR394_3.out x6_4 p396 q396
                           cases e396
                           replace hx396_0 := (HB.out.cell (World.block_lt_of_cell? w _ hx396_0)).trans hx396_0
                           replace p396 := eq_true p396
                           replace q396 := eq_true q396
                           have p397 : 0 ≤ (x6_4 : Int) := of_decide_eq_true (by first | (with_reducible assumption) | assumption)
                           have q397 : x6_4 < (((rd_T124 l0_1 x3_2).f3).length : Int) := of_decide_eq_true (by first | (with_reducible assumption) | assumption)
                           obtain ⟨ad397, e397, hx397_0⟩ := Kd.at_int HR394_3.out x6_4 p397 q397
                           obtain rfl : ad396 = ad397 := (by injection e397)
                           replace hx397_0 := (HB.out.cell (World.block_lt_of_cell? w _ hx397_0)).trans hx397_0
                           replace p397 := eq_true p397
                           replace q397 := eq_true q397
                           have hcz72_0 : wr.cell? ⟨gb393, 0, none⟩ = some (.int .i64 a0_0) := (blk_cell BK393.out 0).trans rfl
                           have hcz72_1 : wr.cell? ⟨gb393, 1, none⟩ = some (.slice (some ad394) l0_1.length c0_1) := (blk_cell BK393.out 1).trans rfl
                           have hcz72_2 : wr.cell? ⟨gb393, 2, none⟩ = some (.int .i64 a0_2) := (blk_cell BK393.out 2).trans rfl
                           have hcz72_3 : wr.cell? ⟨gb393, 3, none⟩ = some (.int .i64 a0_3) := (blk_cell BK393.out 3).trans rfl
                           have hfz72_0 := blk_frozen BK393.out 0
                           have hfz72_1 := blk_frozen BK393.out 1
                           have hfz72_2 := blk_frozen BK393.out 2
                           have hfz72_3 := blk_frozen BK393.out 3
                           have p398 : 0 ≤ (x6_4 : Int) := of_decide_eq_true (by first | (with_reducible assumption) | assumption)
                           have q398 : x6_4 < (((rd_T124 l0_1 x3_2).f3).length : Int) := of_decide_eq_true (by first | (with_reducible assumption) | assumption)
                           obtain ⟨ad398, e398, hx398_0⟩ := Kd.at_int HR394_3.out x6_4 p398 q398
                           obtain rfl : ad396 = ad398 := (by injection e398)
                           replace hx398_0 := (HB.out.cell (World.block_lt_of_cell? w _ hx398_0)).trans hx398_0
                           replace p398 := eq_true p398
                           replace q398 := eq_true q398
                           have p399 : 0 ≤ (x6_4 : Int) := of_decide_eq_true (by first | (with_reducible assumption) | assumption)
                           have q399 : x6_4 < (((rd_T124 l0_1 x3_2).f3).length : Int) := of_decide_eq_true (by first | (with_reducible assumption) | assumption)
                           obtain ⟨ad399, e399, hx399_0⟩ := Kd.at_int HR394_3.out x6_4 p399 q399
                           obtain rfl : ad396 = ad399 := (by injection e399)
                           replace hx399_0 := (HB.out.cell (World.block_lt_of_cell? w _ hx399_0)).trans hx399_0
                           replace p399 := eq_true p399
                           replace q399 := eq_true q399
                           go_wp2
                           repeat (go_quiet (fail); try go_wp2)
                           go_roundg k4
                           case measure => have := HJ1.out; have := HK2.out; have := HJ21.out; have := HK4.out; omega
                           case rel => exact ⟨(rd ((rd_T124 l0_1 x3_2).f3) x6_4), (wrap64 (x6_4 + 1)), (by first | rfl | (simp; done) | (simp [*]; done)), (by first | rfl | (simp; done) | (simp [*]; done)), H', ⟨by have := HJ1.out; have := HK2.out; have := HJ21.out; have := HK4.out; omega⟩, ⟨by (with_reducible repeat (first | refine blk_drewN ?_ _ | refine blk_drew ?_ | refine blk_alloc ?_ _)); exact BK393.out⟩, ⟨by (with_reducible repeat (first | refine blk_drewN ?_ _ | refine blk_drew ?_ | refine blk_alloc ?_ _)); exact BK395.out⟩, ⟨by repeat (first | (with_reducible first | exact HB.out | apply below_alloc | apply pw_below_drewN | apply below_drew1 | refine below_set ?_ GE393.out | refine below_set ?_ GE395.out) | exact HB.out)⟩⟩
                   · rw [if_neg c58] at H
                     exact absurd H (by simp)
                 · rw [if_neg c57] at H
                   have c57b0 : decide (x6_4 < (((rd_T124 l0_1 x3_2).f3).length : Int)) = false := decide_eq_false c57
                   clear c57
                   have H' := Aside0.mk H
                   clear H
                   have hnb73 := NB395_393.out
                   have hnc73 := NB393_395.out
                   have hcz74_0 : wr.cell? ⟨gb395, 0, none⟩ = some (.int .i64 ((rd_T124 l0_1 x3_2).f0)) := (blk_cell BK395.out 0).trans rfl
                   have hcz74_1 : wr.cell? ⟨gb395, 1, none⟩ = some (.int .i64 ((rd_T124 l0_1 x3_2).f1)) := (blk_cell BK395.out 1).trans rfl
                   have hcz74_2 : wr.cell? ⟨gb395, 2, none⟩ = some (.int .i64 ((rd_T124 l0_1 x3_2).f2)) := (blk_cell BK395.out 2).trans rfl
                   have hcz74_3 : wr.cell? ⟨gb395, 3, none⟩ = some (.slice A394_3 ((rd_T124 l0_1 x3_2).f3).length c394_3) := (blk_cell BK395.out 3).trans rfl
                   have hfz74_0 := blk_frozen BK395.out 0
                   have hfz74_1 := blk_frozen BK395.out 1
                   have hfz74_2 := blk_frozen BK395.out 2
                   have hfz74_3 := blk_frozen BK395.out 3
                   go_wp2
                   repeat (go_quiet (fail); try go_wp2)
                   go_roundg k4
                   case measure => have := HJ1.out; have := HK2.out; have := HJ21.out; have := HK4.out; omega
                   case rel => exact ⟨(wrap64 (x3_2 + 1)), (by first | rfl | (simp; done) | (simp [*]; done)), H', ⟨by have := HJ1.out; have := HK2.out; have := HJ21.out; have := HK4.out; omega⟩, ⟨by (with_reducible repeat (first | refine blk_drewN ?_ _ | refine blk_drew ?_ | refine blk_alloc ?_ _)); exact BK393.out⟩, ⟨by repeat (first | (with_reducible first | exact HB.out | apply below_alloc | apply pw_below_drewN | apply below_drew1 | refine below_set ?_ GE393.out | refine below_set ?_ GE395.out) | exact HB.out)⟩⟩
         · rw [if_neg c21] at H
           exact absurd H (by simp)
       · rw [if_neg c20] at H
         have c20b0 : decide (x3_2 < (l0_1.length : Int)) = false := decide_eq_false c20
         clear c20
         obtain rfl := Option.some.inj H
         have hcz75_0 : wr.cell? ⟨gb393, 0, none⟩ = some (.int .i64 a0_0) := (blk_cell BK393.out 0).trans rfl
         have hcz75_1 : wr.cell? ⟨gb393, 1, none⟩ = some (.slice A0_1 l0_1.length c0_1) := (blk_cell BK393.out 1).trans rfl
         have hcz75_2 : wr.cell? ⟨gb393, 2, none⟩ = some (.int .i64 a0_2) := (blk_cell BK393.out 2).trans rfl
         have hcz75_3 : wr.cell? ⟨gb393, 3, none⟩ = some (.int .i64 a0_3) := (blk_cell BK393.out 3).trans rfl
         have hfz75_0 := blk_frozen BK393.out 0
         have hfz75_1 := blk_frozen BK393.out 1
         have hfz75_2 := blk_frozen BK393.out 2
         have hfz75_3 := blk_frozen BK393.out 3
         go_wp2
         repeat (go_quiet (fail); try go_wp2)
         go_ret
         exact ⟨by first | rfl | (simp [errW_none, errW_some] <;> rfl) | (simp [*, errW_none, errW_some] <;> rfl), by repeat (first | (with_reducible first | exact HB.out | apply below_alloc | apply pw_below_drewN | apply below_drew1 | refine below_set ?_ GE393.out) | exact HB.out)⟩
end Go.Proofs.Ytkkfpmgmicfkfaa.X
set_option linter.unusedVariables false
/- What the printed Config of the reference computes. -/
namespace Go.Proofs.Ytkkfpmgmicfkfaa.X
open Go.RowKit Go.Proofs.YtkkfpmgmicfkfaaW.PrintWords Go.Proofs.YtkkfpmgmicfkfaaW.PrintLast Go.Proofs.YtkkfpmgmicfkfaaW.PrintMore Go.Proofs.Ytkkfpmgmicfkfaa
theorem pconfig_l1 (n : Int) (fl : List S124) (wd q f0 f1 f2 : Int) (s : List Int) (hs : s.length ≤ 8) (x3 : Int) : ∀ (m k : Nat) (i last : Int), 0 ≤ i → i ≤ s.length → s.length - i.toNat = m → m < k →
 braidworkref19_Config.l1 k x3 last i n fl wd q f0 f1 f2 s = if sinkBad n f2 last (s.drop i.toNat) = true then some false else braidworkref19_Config.l0 (k - m - 1) (wrap64 (x3 + 1)) n fl wd q := by
 intro m
 induction m with
 | zero =>
  intro k i last h0 h1 hm hk
  obtain ⟨k, rfl⟩ : ∃ m, k = m + 1 := ⟨k - 1, by omega⟩
  unfold braidworkref19_Config.l1
  rw [if_neg (by omega), drop_end s i (by omega)]
  simp [sinkBad]
 | succ m ih =>
  intro k i last h0 h1 hm hk
  obtain ⟨k, rfl⟩ : ∃ m, k = m + 1 := ⟨k - 1, by omega⟩
  unfold braidworkref19_Config.l1
  have hi : i < (s.length : Int) := by omega
  rw [if_pos hi, if_pos h0, drop_at 0 s i h0 hi, wrap_up i s.length h0 hi (by omega)]
  show _ = if sinkBad n f2 last (rd s i :: s.drop (i + 1).toNat) = true then _ else _
  unfold sinkBad
  by_cases c1 : rd s i ≤ last
  · rw [if_pos c1, if_pos (by simp [c1])]
  · rw [if_neg c1]
    by_cases c2 : rd s i ≥ n
    · rw [if_pos c2, if_pos (by simp; omega)]
    · rw [if_neg c2]
      by_cases c3 : rd s i = f2
      · rw [if_pos c3, if_pos (by simp [c3])]
      · rw [if_neg c3, ih k (i + 1) (rd s i) (by omega) (by omega) (by omega) (by omega), decide_eq_false (by omega), Bool.false_or, show k + 1 - (m + 1) - 1 = k - m - 1 by omega]
theorem pconfig_l0 (n : Int) (fl : List S124) (wd q : Int) (hn : 1 ≤ n ∧ n ≤ 64) (hfl : fl.length ≤ 4) : ∀ (m k : Nat) (i : Int), 0 ≤ i → i ≤ fl.length → fl.length - i.toNat = m → m * 12 < k →
 braidworkref19_Config.l0 k i n fl wd q = some (!((fl.drop i.toNat).any (flowBad n))) := by
 intro m
 induction m with
 | zero =>
  intro k i h0 h1 hm hk
  obtain ⟨k, rfl⟩ : ∃ m, k = m + 1 := ⟨k - 1, by omega⟩
  unfold braidworkref19_Config.l0
  rw [if_neg (by omega), drop_end fl i (by omega)]
  rfl
 | succ m ih =>
  intro k i h0 h1 hm hk
  obtain ⟨k, rfl⟩ : ∃ m, k = m + 2 := ⟨k - 2, by omega⟩
  unfold braidworkref19_Config.l0
  have hi : i < (fl.length : Int) := by omega
  have hj : ∀ x3 a b c d f0 f1 f2 f3, braidworkref19_Config.j2 (k + 1) x3 true a b c d f0 f1 f2 f3 = some false := by
   intros
   unfold braidworkref19_Config.j2
   rw [if_pos rfl]
  rw [if_pos hi, if_pos h0, drop_at z124 fl i h0 hi, List.any_cons]
  show _ = some (!(flowBad n (rd_T124 fl i) || _))
  generalize rd_T124 fl i = f
  obtain ⟨G, S, src, s⟩ := f
  simp only [hj]
  by_cases c1 : G < 1
  · rw [if_pos c1]
    have : flowBad n ⟨G, S, src, s⟩ = true := by unfold flowBad; simp; omega
    rw [this]; rfl
  rw [if_neg c1]
  by_cases c2 : G > 255
  · rw [if_pos c2]
    have : flowBad n ⟨G, S, src, s⟩ = true := by unfold flowBad; simp; omega
    rw [this]; rfl
  rw [if_neg c2]
  by_cases c3 : S < 1
  · rw [if_pos c3]
    have : flowBad n ⟨G, S, src, s⟩ = true := by unfold flowBad; simp; omega
    rw [this]; rfl
  rw [if_neg c3]
  by_cases c4 : S > 65535
  · rw [if_pos c4]
    have : flowBad n ⟨G, S, src, s⟩ = true := by unfold flowBad; simp; omega
    rw [this]; rfl
  rw [if_neg c4]
  have hGS : 1 ≤ G * S ∧ G * S ≤ 255 * 65535 := by
   have h1 := Int.mul_le_mul (show G ≤ 255 by omega) (show S ≤ 65535 by omega) (by omega) (by omega)
   have h2 := Int.mul_le_mul (show 1 ≤ G by omega) (show 1 ≤ S by omega) (by omega) (by omega)
   exact ⟨by simpa using h2, h1⟩
  rw [IntWalk.wrap64_in (G * S) (by omega)]
  generalize hp : G * S = P at hGS
  by_cases c5 : P < 5
  · rw [if_pos c5]
    have : flowBad n ⟨G, S, src, s⟩ = true := by unfold flowBad; simp [hp]; omega
    rw [this]; rfl
  rw [if_neg c5]
  by_cases c6 : src < 0
  · rw [if_pos c6]
    have : flowBad n ⟨G, S, src, s⟩ = true := by unfold flowBad; simp; omega
    rw [this]; rfl
  rw [if_neg c6]
  by_cases c7 : src ≥ n
  · rw [if_pos c7]
    have : flowBad n ⟨G, S, src, s⟩ = true := by unfold flowBad; simp; omega
    rw [this]; rfl
  rw [if_neg c7]
  by_cases c8 : (s.length : Int) < 1
  · rw [if_pos c8]
    have : flowBad n ⟨G, S, src, s⟩ = true := by unfold flowBad; simp; omega
    rw [this]; rfl
  rw [if_neg c8]
  by_cases c9 : (s.length : Int) > 8
  · rw [decide_eq_true c9, hj]
    have : flowBad n ⟨G, S, src, s⟩ = true := by unfold flowBad; simp; omega
    rw [this]; rfl
  rw [decide_eq_false c9]
  unfold braidworkref19_Config.j2
  rw [if_neg (by simp), pconfig_l1 n fl wd q G S src s (by omega) i s.length k 0 (-1) (by omega) (by omega) (by simp) (by omega), wrap_up i fl.length h0 hi (by omega)]
  have hF : flowBad n ⟨G, S, src, s⟩ = sinkBad n src (-1) s := by
   unfold flowBad
   simp only [hp, decide_eq_false (show ¬ ¬ (1 ≤ G ∧ G ≤ 255) by omega), decide_eq_false (show ¬ ¬ (1 ≤ S ∧ S ≤ 65535) by omega), decide_eq_false (show ¬ P ≤ 4 by omega), decide_eq_false (show ¬ ¬ (0 ≤ src ∧ src ≤ n - 1) by omega), decide_eq_false (show ¬ ¬ (1 ≤ (s.length : Int) ∧ (s.length : Int) ≤ 8) by omega), Bool.or_false]
  rw [hF]
  simp only [Int.toNat_zero, List.drop_zero]
  cases hb : sinkBad n src (-1) s with
  | true => rw [if_pos rfl]; rfl
  | false => rw [if_neg (by simp), ih _ (i + 1) (by omega) (by omega) (by omega) (by omega)]; rfl
theorem pconfig_eq' (k : Nat) (hk : 99 ≤ k) (n : Int) (fl : List S124) (wd q : Int) : braidworkref19_Config.f (k + 1) n fl wd q = some (configOk n fl wd q) := by
 have hj : braidworkref19_Config.j0 (k + 1) true n fl wd q = some false := rfl
 unfold braidworkref19_Config.f
 rw [hj]
 by_cases c1 : n < 1
 · rw [if_pos c1]; unfold configOk; rw [decide_eq_false (show ¬ (1 ≤ n ∧ n ≤ 64) by omega)]; rfl
 rw [if_neg c1]
 by_cases c2 : n > 64
 · rw [if_pos c2]; unfold configOk; rw [decide_eq_false (show ¬ (1 ≤ n ∧ n ≤ 64) by omega)]; rfl
 rw [if_neg c2]
 by_cases c3 : (fl.length : Int) < 1
 · rw [if_pos c3]; unfold configOk; rw [decide_eq_false (show ¬ (1 ≤ (fl.length : Int) ∧ (fl.length : Int) ≤ 4) by omega)]; simp
 rw [if_neg c3]
 by_cases c4 : (fl.length : Int) > 4
 · rw [if_pos c4]; unfold configOk; rw [decide_eq_false (show ¬ (1 ≤ (fl.length : Int) ∧ (fl.length : Int) ≤ 4) by omega)]; simp
 rw [if_neg c4]
 by_cases c5 : wd < 1
 · rw [if_pos c5]; unfold configOk; rw [decide_eq_false (show ¬ (1 ≤ wd ∧ wd ≤ 16) by omega)]; simp
 rw [if_neg c5]
 by_cases c6 : wd > 16
 · rw [if_pos c6]; unfold configOk; rw [decide_eq_false (show ¬ (1 ≤ wd ∧ wd ≤ 16) by omega)]; simp
 rw [if_neg c6]
 by_cases c7 : q < 1
 · rw [if_pos c7]; unfold configOk; rw [decide_eq_false (show ¬ (1 ≤ q ∧ q ≤ 64) by omega)]; simp
 rw [if_neg c7]
 by_cases c8 : q > 64
 · rw [decide_eq_true c8, hj]; unfold configOk; rw [decide_eq_false (show ¬ (1 ≤ q ∧ q ≤ 64) by omega)]; simp
 rw [decide_eq_false c8]
 show (if false = true then some false else braidworkref19_Config.l0 k 0 n fl wd q) = _
 rw [if_neg (by simp), pconfig_l0 n fl wd q (by omega) (by omega) fl.length k 0 (by omega) (by omega) (by simp) (by omega)]
 unfold configOk
 rw [decide_eq_true (show 1 ≤ n ∧ n ≤ 64 by omega), decide_eq_true (show 1 ≤ (fl.length : Int) ∧ (fl.length : Int) ≤ 4 by omega), decide_eq_true (show 1 ≤ wd ∧ wd ≤ 16 by omega), decide_eq_true (show 1 ≤ q ∧ q ≤ 64 by omega)]
 simp
theorem pconfig_eq (k : Nat) (hk : 100 ≤ k) (n : Int) (fl : List S124) (wd q : Int) : braidworkref19_Config.f k n fl wd q = some (configOk n fl wd q) := by
 obtain ⟨k, rfl⟩ : ∃ m, k = m + 1 := ⟨k - 1, by omega⟩
 exact pconfig_eq' k (by omega) n fl wd q
end Go.Proofs.Ytkkfpmgmicfkfaa.X
set_option linter.unusedVariables false
/- braidworkref19.May, by hand. -/
namespace Go.Proofs.Ytkkfpmgmicfkfaa.X
open Go.RowKit Go.Proofs.YtkkfpmgmicfkfaaW.PrintWords Go.Proofs.YtkkfpmgmicfkfaaW.PrintLast Go.Proofs.YtkkfpmgmicfkfaaW.PrintMore Go.Proofs.Ytkkfpmgmicfkfaa
def GoodAt (l : List S40) (n : Int) : Prop := (nextOf l n).length ≤ 8 ∧ n ∉ reachOf l n
def FineAt (nodes : Int) (up : List Bool) (src : Int) (l : List S40) (j : Int) : Prop := edgeOk nodes up src (rd_T40 l j) = true ∧ (1 ≤ j → ltE (rd_T40 l (j - 1)) (rd_T40 l j))
theorem rowP_fine {nodes : Int} {up : List Bool} {src : Int} {l : List S40} (hl : l.length ≤ 128) : RowP nodes up src l ↔ (∀ j : Int, 0 ≤ j → j < l.length → FineAt nodes up src l j) ∧ ∀ n : Int, 0 ≤ n → n < nodes → GoodAt l n := by
 rw [← rowR_iff]
 constructor
 · rintro ⟨_, h2, h3, h4⟩
   exact ⟨fun i hi0 hi1 => ⟨h2 i hi0 hi1, fun h => h3 i h hi1⟩, h4⟩
 · rintro ⟨h2, h4⟩
   exact ⟨hl, fun i hi0 hi1 => (h2 i hi0 hi1).1, fun i hi0 hi1 => (h2 i (by omega) hi1).2 hi0, h4⟩
/-- What May only reads. -/
structure RM (w : World) (nodes : Int) (Af : Option Addr) (cf : Nat) (fl : List S124) (wd q ep : Int) (A1 : Option Addr) (c1 : Nat) (up : List Bool) (A2 : Option Addr) (c2 : Nat) (hops : List (List S40)) (W : World) : Prop where
 bc : W.heap[w.heap.size]? = some (.cells #[.int .i64 nodes, .slice Af fl.length cf, .int .i64 wd, .int .i64 q] 24 (0, 0))
 bt : W.heap[w.heap.size + 1]? = some (.cells #[.int .u64 ep, .slice A1 up.length c1, .slice A2 hops.length c2] 29 (0, 0))
 fs : Kd.C k124 W Af fl.length fl
 us : Kd.C Kd.bool W A1 up.length up
 hs : Kd.C (Kd.slice 40 k40) W A2 hops.length hops
 bel : Below w.heap.size w W
theorem RM.below {w : World} {nodes : Int} {Af : Option Addr} {cf : Nat} {fl : List S124} {wd q ep : Int} {A1 : Option Addr} {c1 : Nat} {up : List Bool} {A2 : Option Addr} {c2 : Nat} {hops : List (List S40)} {W W' : World} (h : RM w nodes Af cf fl wd q ep A1 c1 up A2 c2 hops W) (hb : Below W.heap.size W W') : RM w nodes Af cf fl wd q ep A1 c1 up A2 c2 hops W' :=
 ⟨(hb.block _ (blk_lt h.bc)).trans h.bc, (hb.block _ (blk_lt h.bt)).trans h.bt, Kd.C_below h.fs hb, Kd.C_below h.us hb, Kd.C_below h.hs hb, below_then h.bel h.bel.size hb⟩
theorem RM.cells {w : World} {nodes : Int} {Af : Option Addr} {cf : Nat} {fl : List S124} {wd q ep : Int} {A1 : Option Addr} {c1 : Nat} {up : List Bool} {A2 : Option Addr} {c2 : Nat} {hops : List (List S40)} {W : World} (h : RM w nodes Af cf fl wd q ep A1 c1 up A2 c2 hops W) :
 (W.cell? ⟨w.heap.size, 0, none⟩ = some (.int .i64 nodes) ∧ W.cell? ⟨w.heap.size, 1, none⟩ = some (.slice Af fl.length cf)) ∧ W.cell? ⟨w.heap.size + 1, 0, none⟩ = some (.int .u64 ep) ∧ W.cell? ⟨w.heap.size + 1, 1, none⟩ = some (.slice A1 up.length c1) ∧ W.cell? ⟨w.heap.size + 1, 2, none⟩ = some (.slice A2 hops.length c2) :=
 ⟨⟨(blk_cell h.bc 0).trans rfl, (blk_cell h.bc 1).trans rfl⟩, (blk_cell h.bt 0).trans rfl, (blk_cell h.bt 1).trans rfl, (blk_cell h.bt 2).trans rfl⟩
set_option maxHeartbeats 16000000 in
set_option maxRecDepth 100000 in
theorem ref_may (nodes : Int) (Af : Option Addr) (cf : Nat) (fl : List S124) (wd q ep : Int) (A1 : Option Addr) (c1 : Nat) (up : List Bool) (A2 : Option Addr) (c2 : Nat) (hops : List (List S40)) (w : World) (hep : 0 ≤ ep)
 (hf : Kd.C k124 w Af fl.length fl) (hfc : fl.length ≤ cf) (hu : Kd.C Kd.bool w A1 up.length up) (huc : up.length ≤ c1) (hh : Kd.C (Kd.slice 40 k40) w A2 hops.length hops) (hhc : hops.length ≤ c2) :
 Calls Try.prog 23 #[.agg #[.int .i64 nodes, .slice Af fl.length cf, .int .i64 wd, .int .i64 q], .agg #[.int .u64 ep, .slice A1 up.length c1, .slice A2 hops.length c2]] w fun e w' => IsBool e (MayP nodes fl wd q ep up hops) ∧ Below w.heap.size w w' := by
 have hl1 := hf.2.1
 have hl2 := hu.2.1
 have hl3 := hh.2.1
 have hb : Below w.heap.size w ((w.alloc (.cells #[.int .i64 nodes, .slice Af fl.length cf, .int .i64 wd, .int .i64 q] 24)).alloc (.cells #[.int .u64 ep, .slice A1 up.length c1, .slice A2 hops.length c2] 29)) := below_alloc (below_alloc (Below.refl _ _) _) _
 have hG := blk_alloc (blk_new w (.cells #[.int .i64 nodes, .slice Af fl.length cf, .int .i64 wd, .int .i64 q] 24)) (.cells #[.int .u64 ep, .slice A1 up.length c1, .slice A2 hops.length c2] 29)
 have hT := blk_new (w.alloc (.cells #[.int .i64 nodes, .slice Af fl.length cf, .int .i64 wd, .int .i64 q] 24)) (.cells #[.int .u64 ep, .slice A1 up.length c1, .slice A2 hops.length c2] 29)
 rw [show (w.alloc (.cells #[.int .i64 nodes, .slice Af fl.length cf, .int .i64 wd, .int .i64 q] 24)).heap.size = w.heap.size + 1 by simp] at hT
 have HM : Aside0 (RM w nodes Af cf fl wd q ep A1 c1 up A2 c2 hops ((w.alloc (.cells #[.int .i64 nodes, .slice Af fl.length cf, .int .i64 wd, .int .i64 q] 24)).alloc (.cells #[.int .u64 ep, .slice A1 up.length c1, .slice A2 hops.length c2] 29))) := ⟨⟨hG, hT, Kd.C_below hf hb, Kd.C_below hu hb, Kd.C_below hh hb, hb⟩⟩
 have HCF := Aside0.mk (fun (W : World) (hW : Below w.heap.size w W) => braidworkref19_Config.calls 100 nodes Af cf fl wd q (configOk nodes fl wd q) W (Kd.C_below hf hW) hfc (pconfig_eq 100 (by omega) nodes fl wd q))
 have HNX := Aside0.mk (fun (flow n : Int) (hlen : (edgesOf hops flow).length ≤ 128) (W : World) (hW : Below w.heap.size w W) => braidworkref19_Next.calls 1000 ep A1 c1 up A2 c2 hops flow n _ W (Kd.C_below hu hW) huc (Kd.C_below hh hW) hhc (pnext_eq ep up hops flow n (by omega) 1000 (by omega)))
 have HRC := Aside0.mk (fun (flow n : Int) (hlen : (edgesOf hops flow).length ≤ 128) (W : World) (hW : Below w.heap.size w W) => ref_reach ep A1 c1 up A2 c2 hops flow n W (Kd.C_below hu hW) huc (Kd.C_below hh hW) hhc (by omega))
 have HEP := Aside0.mk hep
 clear hf hu hh hb hG hT hfc huc hhc hep
 go_enter Try.func23, Try.ntmps23
 go_wp2_with fail
 generalize ((w.alloc (.cells #[.int .i64 nodes, .slice Af fl.length cf, .int .i64 wd, .int .i64 q] 24)).alloc (.cells #[.int .u64 ep, .slice A1 up.length c1, .slice A2 hops.length c2] 29)) = w1 at HM ⊢
 obtain ⟨⟨g0, g1⟩, t0, t1, t2⟩ := HM.out.cells
 refine (HCF.out _ HM.out.bel).mono ?_
 rintro e w2 ⟨rfl, hb2⟩
 have HM2 := Aside0.mk (HM.out.below hb2)
 clear hb2 HM g0 g1 t0 t1 t2
 obtain ⟨⟨g0, g1⟩, t0, t1, t2⟩ := HM2.out.cells
 cases hc : configOk nodes fl wd q with
 | false =>
  have HQ := Aside0.mk (show ¬ MayP nodes fl wd q ep up hops by intro h; rw [h.1] at hc; cases hc)
  clear hc
  go_wp2
  go_ret
  exact ⟨⟨false, rfl, by simp only [Bool.false_eq_true, false_iff]; exact HQ.out⟩, HM2.out.bel⟩
 | true =>
  have HC := Aside0.mk hc
  have hnb := Aside0.mk (show 1 ≤ nodes ∧ nodes ≤ 64 by
   unfold configOk at hc
   simp only [Bool.and_eq_true] at hc
   exact of_decide_eq_true hc.1)
  clear hc
  by_cases he1 : ep = 0
  · have he1' : decide (ep = 0) = true := decide_eq_true he1
    have he2' : (ep == 0) = true := beq_iff_eq.2 he1
    have HQ := Aside0.mk (show ¬ MayP nodes fl wd q ep up hops by intro h; have := h.2.1; omega)
    have he1 := Aside0.mk he1
    go_wp2
    go_ret
    exact ⟨⟨false, rfl, by simp only [Bool.false_eq_true, false_iff]; exact HQ.out⟩, HM2.out.bel⟩
  have he1' : decide (ep = 0) = false := decide_eq_false he1
  have he2' : (ep == 0) = false := beq_eq_false_iff_ne.2 he1
  by_cases he2 : 1125899906842624 < ep
  · have he3' : decide (1125899906842624 < ep) = true := decide_eq_true he2
    have HQ := Aside0.mk (show ¬ MayP nodes fl wd q ep up hops by intro h; have := h.2.2.1; omega)
    have he1 := Aside0.mk he1
    go_wp2
    go_ret
    exact ⟨⟨false, rfl, by simp only [Bool.false_eq_true, false_iff]; exact HQ.out⟩, HM2.out.bel⟩
  have he3' : decide (1125899906842624 < ep) = false := decide_eq_false he2
  have HE := Aside0.mk (show 1 ≤ ep ∧ ep ≤ 1125899906842624 by have := HEP.out; omega)
  have he1 := Aside0.mk he1
  by_cases hul : (up.length : Int) = nodes
  case neg =>
   have hul' : ((up.length : Int) != nodes) = true := bne_iff_ne.2 hul
   have hul2 : decide ((up.length : Int) = nodes) = false := decide_eq_false hul
   have HQ := Aside0.mk (show ¬ MayP nodes fl wd q ep up hops by intro h; exact hul h.2.2.2.1)
   go_wp2
   go_ret
   exact ⟨⟨false, rfl, by simp only [Bool.false_eq_true, false_iff]; exact HQ.out⟩, HM2.out.bel⟩
  by_cases hhl : (hops.length : Int) = (fl.length : Int)
  case neg =>
   have hul' : ((up.length : Int) != nodes) = false := by simp [hul]
   have hhl' : ((hops.length : Int) != (fl.length : Int)) = true := bne_iff_ne.2 hhl
   have HQ := Aside0.mk (show ¬ MayP nodes fl wd q ep up hops by intro h; exact hhl (by rw [h.2.2.2.2.1]))
   have hul := Aside0.mk hul
   go_wp2
   go_ret
   exact ⟨⟨false, rfl, by simp only [Bool.false_eq_true, false_iff]; exact HQ.out⟩, HM2.out.bel⟩
  have hul' : ((up.length : Int) != nodes) = false := by simp [hul]
  have hhl' : ((hops.length : Int) != (fl.length : Int)) = false := by simp [hhl]
  have HUL := Aside0.mk hul
  have HHL := Aside0.mk hhl
  clear hul hhl
  go_wp2_with fail
  clear he1' he2' he3' hul' hhl' g0 g1 t0 t1 t2
  go_loopg [5] hops.length (fun gg v5 W => ∃ i : Int, 0 ≤ i ∧ i ≤ hops.length ∧ hops.length - i.toNat ≤ gg ∧ v5 = .int .i64 i ∧ Aside0 (RM w nodes Af cf fl wd q ep A1 c1 up A2 c2 hops W) ∧ Aside0 (RowsP nodes up fl hops i))
  case atStart => exact ⟨0, by omega, by omega, by omega, rfl, HM2, ⟨fun f h1 h2 => by omega⟩⟩
  case round =>
   clear HM2
   obtain ⟨i, h0, h1, hg, rfl, HM, HR⟩ := hrel
   obtain ⟨⟨g0, g1⟩, t0, t1, t2⟩ := HM.out.cells
   by_cases hi : i < hops.length
   case neg =>
    have HQ := Aside0.mk (show MayP nodes fl wd q ep up hops from ⟨HC.out, HE.out.1, HE.out.2, HUL.out, by have := HHL.out; omega, fun f h1 h2 => HR.out f h1 (by omega)⟩)
    go_wp2
    go_ret
    exact ⟨⟨true, rfl, by simp only [true_iff]; exact HQ.out⟩, HM.out.bel⟩
   obtain ⟨ad, Ar, cr, eA, hx, hle, hC⟩ := Rows1.at_rows HM.out.hs i h0 hi
   cases eA
   have HEI := Aside0.mk (show edgesOf hops i = Rows1.rdr hops i by unfold edgesOf; rw [if_pos ⟨h0, hi⟩])
   have HQR := Aside0.mk (show MayP nodes fl wd q ep up hops → RowP nodes up (rd_T124 fl i).f2 (Rows1.rdr hops i) from fun h => h.2.2.2.2.2 i h0 hi)
   have HRN := Aside0.mk (show RowP nodes up (rd_T124 fl i).f2 (Rows1.rdr hops i) → RowsP nodes up fl hops (i + 1) from fun h f h1 h2 => by
    rcases Int.lt_or_le f i with hfi | hfi
    · exact HR.out f h1 hfi
    · have hfi : f = i := by omega
      subst hfi
      exact h)
   have hrl : (Rows1.rdr hops i).length ≤ 9223372036854775807 := hC.2.1
   generalize Rows1.rdr hops i = l at hx hle hC HEI HQR HRN hrl
   by_cases h128 : 128 < (l.length : Int)
   · have h128' : decide (128 < (l.length : Int)) = true := decide_eq_true h128
     have HQ := Aside0.mk (show ¬ MayP nodes fl wd q ep up hops from fun h => by have := (HQR.out h).1; omega)
     go_wp2
     go_ret
     exact ⟨⟨false, rfl, by simp only [Bool.false_eq_true, false_iff]; exact HQ.out⟩, HM.out.bel⟩
   have h128' : decide (128 < (l.length : Int)) = false := decide_eq_false h128
   have hl128 : l.length ≤ 128 := by omega
   have HCL := Aside0.mk (fun (W : World) (hW : Below wr.heap.size wr W) => Kd.C_below hC hW)
   have HFL := Aside0.mk (show i < fl.length by have := HHL.out; omega)
   obtain ⟨wo, rfl⟩ : ∃ wo : World, wo = wr := ⟨_, rfl⟩
   obtain ⟨adf, A3, c3, eAf, _, _, hsrc0, _⟩ := at_T124 HM.out.fs i h0 HFL.out
   cases eAf
   generalize (rd_T124 fl i).f2 = src at HQR HRN hsrc0
   have HSRC := Aside0.mk hsrc0
   clear hsrc0
   clear hC hle
   go_wp2_with fail
   clear hx h128' h128 t0 t1 t2 g0 g1
   go_loopg [7] l.length (fun gg v7 W => ∃ j : Int, 0 ≤ j ∧ j ≤ l.length ∧ l.length - j.toNat ≤ gg ∧ v7 = .int .i64 j ∧ Aside0 (RM w nodes (some adf) cf fl wd q ep A1 c1 up (some ad) c2 hops W) ∧ Aside0 (Below wo.heap.size wo W) ∧ Aside0 (∀ k : Int, 0 ≤ k → k < j → FineAt nodes up src l k))
   case atStart => exact ⟨0, by omega, by omega, by omega, rfl, HM, ⟨Below.refl _ _⟩, ⟨fun k hk0 hk1 => by omega⟩⟩
   case round =>
    clear HM
    obtain ⟨j, j0, j1, hgj, rfl, HM, HBo, HFN⟩ := hrel
    by_cases hj : j < l.length
    case neg =>
     have HF2 := Aside0.mk (show ∀ k : Int, 0 ≤ k → k < l.length → FineAt nodes up src l k from fun k hk0 hk1 => HFN.out k hk0 (by omega))
     clear HFN
     go_wp2_with fail
     obtain ⟨wp, rfl⟩ : ∃ wp : World, wp = wr := ⟨_, rfl⟩
     have hel : (edgesOf hops i).length ≤ 128 := by rw [HEI.out]; exact hl128
     have HEL := Aside0.mk hel
     clear hel
     go_loopg [9] nodes.toNat (fun gg v9 W => ∃ n : Int, 0 ≤ n ∧ n ≤ nodes ∧ nodes.toNat - n.toNat ≤ gg ∧ v9 = .int .i64 n ∧ Aside0 (RM w nodes (some adf) cf fl wd q ep A1 c1 up (some ad) c2 hops W) ∧ Aside0 (∀ k : Int, 0 ≤ k → k < n → GoodAt l k))
     case atStart => exact ⟨0, by omega, by have := hnb.out; omega, by omega, rfl, HM, ⟨fun k hk0 hk1 => by omega⟩⟩
     case round =>
      clear HM
      obtain ⟨n, n0, n1, hgn, rfl, HM, HGN⟩ := hrel
      obtain ⟨⟨g0, g1⟩, t0, t1, t2⟩ := HM.out.cells
      have hn64 : nodes ≤ 64 := hnb.out.2
      by_cases hn : n < nodes
      case neg =>
       have HR2 := Aside0.mk (HRN.out ((rowP_fine hl128).2 ⟨HF2.out, fun k hk0 hk1 => HGN.out k hk0 (by omega)⟩))
       have hnd : decide (n < nodes) = false := decide_eq_false hn
       have hwr : IntKind.i64.wrap (i + 1) = i + 1 := IntWalk.i64_in _ (by omega)
       go_wp2
       go_roundg (hops.length - (i + 1).toNat)
       case measure => omega
       case rel => exact ⟨i + 1, by omega, by omega, Nat.le_refl _, rfl, HM, HR2⟩
      have hnd : decide (n < nodes) = true := decide_eq_true hn
      have HGS := Aside0.mk (show GoodAt l n → ∀ k : Int, 0 ≤ k → k < n + 1 → GoodAt l k from fun h k hk0 hk1 => by
       rcases Int.lt_or_le k n with hkn | hkn
       · exact HGN.out k hk0 hkn
       · have : k = n := by omega
         subst this
         exact h)
      have HQG := Aside0.mk (show ¬ GoodAt l n → ¬ MayP nodes fl wd q ep up hops from fun h hm => h (((rowP_fine hl128).1 (HQR.out hm)).2 n n0 hn))
      clear HGN
      go_wp2_with fail
      refine (HNX.out i n HEL.out _ HM.out.bel).mono ?_
      rintro e w6 ⟨vn, rfl, hR, hb6⟩
      obtain ⟨An, cn, rfl⟩ := Kd.R_slice hR
      rw [HEI.out] at hR ⊢
      have HM6 := Aside0.mk (HM.out.below hb6)
      clear hR hb6 HM g0 g1 t0 t1 t2
      obtain ⟨⟨g0, g1⟩, t0, t1, t2⟩ := HM6.out.cells
      by_cases h8 : 8 < ((nextOf l n).length : Int)
      · have h8' : decide (8 < ((nextOf l n).length : Int)) = true := decide_eq_true h8
        have HQ := Aside0.mk (HQG.out (fun h => by have := h.1; omega))
        go_wp2
        go_ret
        exact ⟨⟨false, rfl, by simp only [Bool.false_eq_true, false_iff]; exact HQ.out⟩, HM6.out.bel⟩
      have h8' : decide (8 < ((nextOf l n).length : Int)) = false := decide_eq_false h8
      have HL8 := Aside0.mk h8
      go_wp2_with fail
      refine (HRC.out i n HEL.out _ HM6.out.bel).mono ?_
      rintro e w7 ⟨vr, rfl, hR, hb7⟩
      obtain ⟨Ar2, cr2, rfl⟩ := Kd.R_slice hR
      rw [HEI.out] at hR ⊢
      have HR7 := Aside0.mk (Kd.R_reads' hR)
      have HM7 := Aside0.mk (HM6.out.below hb7)
      clear hR hb7 HM6 g0 g1 t0 t1 t2
      cases hcon : (reachOf l n).contains n with
      | true =>
       have HQ := Aside0.mk (HQG.out (fun h => h.2 (List.contains_iff_mem.1 hcon)))
       go_wp2_with fail
       refine (braidworkref19_Has.calls ((reachOf l n).length + 1) Ar2 cr2 (reachOf l n) n true _ HR7.out.2.2 HR7.out.2.1 ((has_eq _ n HR7.out.2.2.2.1 _ (Nat.lt_succ_self _)).trans (by rw [hcon]))).mono ?_
       rintro e w8 ⟨rfl, hd⟩
       have HB8 := Aside0.mk (below_then HM7.out.bel HM7.out.bel.size hd.below)
       clear hd
       go_wp2
       go_ret
       exact ⟨⟨false, rfl, by simp only [Bool.false_eq_true, false_iff]; exact HQ.out⟩, HB8.out⟩
      | false =>
       have HG2 := Aside0.mk (HGS.out ⟨by have := HL8.out; omega, fun h => by rw [List.contains_iff_mem.2 h] at hcon; cases hcon⟩)
       go_wp2_with fail
       refine (braidworkref19_Has.calls ((reachOf l n).length + 1) Ar2 cr2 (reachOf l n) n false _ HR7.out.2.2 HR7.out.2.1 ((has_eq _ n HR7.out.2.2.2.1 _ (Nat.lt_succ_self _)).trans (by rw [hcon]))).mono ?_
       rintro e w8 ⟨rfl, hd⟩
       have HM8 := Aside0.mk (HM7.out.below hd.below)
       clear hd HM7 HR7
       have hwr : IntKind.i64.wrap (n + 1) = n + 1 := IntWalk.i64_in _ (by omega)
       go_wp2
       go_roundg (nodes.toNat - (n + 1).toNat)
       case measure => omega
       case rel => exact ⟨n + 1, by omega, by omega, Nat.le_refl _, rfl, HM8, HG2⟩
    obtain ⟨adr, eAr, hx0, hx1⟩ := at_T40 (HCL.out _ HBo.out) j j0 hj
    cases eAr
    have HFS := Aside0.mk (show FineAt nodes up src l j → ∀ k : Int, 0 ≤ k → k < j + 1 → FineAt nodes up src l k from fun h k hk0 hk1 => by
     rcases Int.lt_or_le k j with hkj | hkj
     · exact HFN.out k hk0 hkj
     · have : k = j := by omega
       subst this
       exact h)
    have HQF := Aside0.mk (show ¬ FineAt nodes up src l j → ¬ MayP nodes fl wd q ep up hops from fun h hm => h (((rowP_fine hl128).1 (HQR.out hm)).1 j j0 hj))
    clear HFN
    go_wp2_with fail
    have hal := below_alloc (Below.refl wr.heap.size wr) (.cells #[.int .i64 (rd_T40 l j).f0, .int .i64 (rd_T40 l j).f1] 40)
    have HMA := Aside0.mk (HM.out.below hal)
    have HBA := Aside0.mk (below_then HBo.out HBo.out.size hal)
    have HXA := Aside0.mk (blk_new wr (.cells #[.int .i64 (rd_T40 l j).f0, .int .i64 (rd_T40 l j).f1] 40))
    clear hal hx0 hx1 HM HBo
    have HE0 : Aside0 (FineAt nodes up src l j ↔ edgeOk nodes up src ⟨(rd_T40 l j).f0, (rd_T40 l j).f1⟩ = true ∧ (1 ≤ j → ltE (rd_T40 l (j - 1)) ⟨(rd_T40 l j).f0, (rd_T40 l j).f1⟩)) := ⟨Iff.rfl⟩
    generalize (rd_T40 l j).f0 = a at HXA HMA HBA HE0 ⊢
    generalize (rd_T40 l j).f1 = b at HXA HMA HBA HE0 ⊢
    generalize (wr.alloc (.cells #[.int .i64 a, .int .i64 b] 40)) = w4 at HMA HBA HXA ⊢
    generalize wr.heap.size = ga at HXA ⊢
    have e0 : w4.cell? ⟨ga, 0, none⟩ = some (.int .i64 a) := (blk_cell HXA.out 0).trans rfl
    have e1 : w4.cell? ⟨ga, 1, none⟩ = some (.int .i64 b) := (blk_cell HXA.out 1).trans rfl
    obtain ⟨⟨g0, g1⟩, t0, t1, t2⟩ := HMA.out.cells
    have hsrc := pw_cell_below HBA.out HSRC.out
    have hif0 := h0
    have hif1 := HFL.out
    have hub := Aside0.mk HUL.out
    have HBAD := Aside0.mk (show edgeOk nodes up src ⟨a, b⟩ = false → ¬ MayP nodes fl wd q ep up hops from fun h => HQF.out (fun h2 => by
     have := (HE0.out.1 h2).1
     rw [h] at this
     cases this))
    by_cases q1 : a < 0
    · have q1' : decide (a < 0) = true := decide_eq_true q1
      have HQ := Aside0.mk (HBAD.out (by unfold edgeOk upOk; simp only [decide_eq_false (show ¬ (0 ≤ a ∧ a ≤ nodes - 1) by omega), Bool.false_and]))
      go_quiet (fail)
      go_wp2
      go_ret
      exact ⟨⟨false, rfl, by simp only [Bool.false_eq_true, false_iff]; exact HQ.out⟩, pw_below_drewN HMA.out.bel nq⟩
    have q1' : decide (a < 0) = false := decide_eq_false q1
    by_cases q2 : nodes ≤ a
    · have q2' : decide (nodes ≤ a) = true := decide_eq_true q2
      have HQ := Aside0.mk (HBAD.out (by unfold edgeOk upOk; simp only [decide_eq_false (show ¬ (0 ≤ a ∧ a ≤ nodes - 1) by omega), Bool.false_and]))
      go_quiet (fail)
      go_wp2
      go_ret
      exact ⟨⟨false, rfl, by simp only [Bool.false_eq_true, false_iff]; exact HQ.out⟩, pw_below_drewN HMA.out.bel nq⟩
    have q2' : decide (nodes ≤ a) = false := decide_eq_false q2
    by_cases q3 : b < 0
    · have q3' : decide (b < 0) = true := decide_eq_true q3
      have HQ := Aside0.mk (HBAD.out (by unfold edgeOk upOk; simp only [decide_eq_false (show ¬ (0 ≤ b ∧ b ≤ nodes - 1) by omega), Bool.false_and, Bool.and_false]))
      go_quiet (fail)
      go_wp2
      go_ret
      exact ⟨⟨false, rfl, by simp only [Bool.false_eq_true, false_iff]; exact HQ.out⟩, pw_below_drewN HMA.out.bel nq⟩
    have q3' : decide (b < 0) = false := decide_eq_false q3
    by_cases q4 : nodes ≤ b
    · have q4' : decide (nodes ≤ b) = true := decide_eq_true q4
      have HQ := Aside0.mk (HBAD.out (by unfold edgeOk upOk; simp only [decide_eq_false (show ¬ (0 ≤ b ∧ b ≤ nodes - 1) by omega), Bool.false_and, Bool.and_false]))
      go_quiet (fail)
      go_wp2
      go_ret
      exact ⟨⟨false, rfl, by simp only [Bool.false_eq_true, false_iff]; exact HQ.out⟩, pw_below_drewN HMA.out.bel nq⟩
    have q4' : decide (nodes ≤ b) = false := decide_eq_false q4
    by_cases q5 : a = b
    · have HQ := Aside0.mk (HBAD.out (by unfold edgeOk; simp [q5]))
      have q5' : decide (a = b) = true := decide_eq_true q5
      have q5'' : (a == b) = true := beq_iff_eq.2 q5
      have q5 := Aside0.mk q5
      go_quiet (fail)
      go_wp2
      go_ret
      exact ⟨⟨false, rfl, by simp only [Bool.false_eq_true, false_iff]; exact HQ.out⟩, pw_below_drewN HMA.out.bel nq⟩
    have q5' : decide (a = b) = false := decide_eq_false q5
    have q5'' : (a == b) = false := beq_eq_false_iff_ne.2 q5
    have q5 := Aside0.mk q5
    by_cases q6 : b = src
    · have HQ := Aside0.mk (HBAD.out (by unfold edgeOk; simp [q6]))
      subst q6
      go_quiet (fail)
      go_wp2
      go_ret
      exact ⟨⟨false, rfl, by simp only [Bool.false_eq_true, false_iff]; exact HQ.out⟩, pw_below_drewN HMA.out.bel nq⟩
    have q6' : decide (b = src) = false := decide_eq_false q6
    have q6'' : (b == src) = false := beq_eq_false_iff_ne.2 q6
    have q6 := Aside0.mk q6
    have ha0 : 0 ≤ a := by omega
    have ha1 : a < up.length := by have := hub.out; omega
    have hb0 : 0 ≤ b := by omega
    have hb1 : b < up.length := by have := hub.out; omega
    obtain ⟨adu, eAu, hua⟩ := Kd.at_bool HMA.out.us a ha0 ha1
    obtain ⟨_, eAu2, hub2⟩ := Kd.at_bool HMA.out.us b hb0 hb1
    cases eAu
    cases eAu2
    have HEO := Aside0.mk (show edgeOk nodes up src ⟨a, b⟩ = (rdOf false up a && rdOf false up b) by
     unfold edgeOk upOk rdOf
     simp only [decide_eq_true (show 0 ≤ a ∧ a ≤ nodes - 1 by omega), decide_eq_true (show 0 ≤ b ∧ b ≤ nodes - 1 by omega), decide_eq_false q5.out, decide_eq_false q6.out, Bool.not_false, Bool.and_true, Bool.true_and])
    cases hva : rdOf false up a with
    | false =>
     have HQ := Aside0.mk (HBAD.out (by rw [HEO.out, hva]; rfl))
     rw [hva] at hua
     clear hva
     go_quiet (fail)
     go_wp2
     go_ret
     exact ⟨⟨false, rfl, by simp only [Bool.false_eq_true, false_iff]; exact HQ.out⟩, pw_below_drewN HMA.out.bel nq⟩
    | true =>
     rw [hva] at hua
     cases hvb : rdOf false up b with
     | false =>
      have HQ := Aside0.mk (HBAD.out (by rw [HEO.out, hva, hvb]; rfl))
      rw [hvb] at hub2
      clear hva hvb
      go_quiet (fail)
      go_wp2
      go_ret
      exact ⟨⟨false, rfl, by simp only [Bool.false_eq_true, false_iff]; exact HQ.out⟩, pw_below_drewN HMA.out.bel nq⟩
     | true =>
      have HOK := Aside0.mk (show edgeOk nodes up src ⟨a, b⟩ = true by rw [HEO.out, hva, hvb]; rfl)
      rw [hvb] at hub2
      clear hva hvb HEO HBAD
      go_quiet (fail)
      go_wp2_with fail
      have HMB := Aside0.mk (HMA.out.below (pw_below_drewN (Below.refl _ _) nq))
      have HBB := Aside0.mk (pw_below_drewN HBA.out nq)
      have e0 : (w4.drewN nq).cell? ⟨ga, 0, none⟩ = some (.int .i64 a) := e0
      have e1 : (w4.drewN nq).cell? ⟨ga, 1, none⟩ = some (.int .i64 b) := e1
      generalize w4.drewN nq = w5 at HMB HBB e0 e1 ⊢
      clear hua hub2 hsrc q1' q2' q3' q4' q5' q5'' q6' q6'' g0 g1 t0 t1 t2 HMA HBA HXA
      by_cases hj1 : 1 ≤ j
      case neg =>
       have hjd : decide (0 < j) = false := decide_eq_false (by omega)
       have HF3 := Aside0.mk (HFS.out (HE0.out.2 ⟨HOK.out, fun h => absurd h hj1⟩))
       have hwr : IntKind.i64.wrap (j + 1) = j + 1 := IntWalk.i64_in _ (by omega)
       go_quiet (fail)
       go_wp2
       go_roundg (l.length - (j + 1).toNat)
       case measure => omega
       case rel => exact ⟨j + 1, by omega, by omega, Nat.le_refl _, rfl, ⟨HMB.out.below (pw_below_drewN (Below.refl _ _) _)⟩, ⟨pw_below_drewN HBB.out _⟩, HF3⟩
      have hjd : decide (0 < j) = true := decide_eq_true (by omega)
      obtain ⟨adr2, eAr2, y0, y1⟩ := at_T40 (HCL.out _ HBB.out) (j - 1) (by omega) (by omega)
      cases eAr2
      rw [show (j - 1).toNat = j.toNat - 1 by omega] at y0 y1
      have hwi : IntKind.i64.wrap (j - 1) = j - 1 := IntWalk.i64_in _ (by omega)
      have hj00 : 0 ≤ j - 1 := by omega
      have hj01 : j - 1 < l.length := by omega
      have HLT : Aside0 (ltE (rd_T40 l (j - 1)) ⟨a, b⟩ ↔ (rd_T40 l (j - 1)).f0 < a ∨ (rd_T40 l (j - 1)).f0 = a ∧ (rd_T40 l (j - 1)).f1 < b) := ⟨Iff.rfl⟩
      generalize (rd_T40 l (j - 1)).f0 = c at y0 HLT
      generalize (rd_T40 l (j - 1)).f1 = d at y1 HLT
      by_cases r1 : a < c
      · have r1' : decide (a < c) = true := decide_eq_true r1
        have HQ := Aside0.mk (HQF.out (fun h => by have := HLT.out.1 ((HE0.out.1 h).2 hj1); omega))
        go_quiet (fail)
        go_wp2
        go_ret
        exact ⟨⟨false, rfl, by simp only [Bool.false_eq_true, false_iff]; exact HQ.out⟩, pw_below_drewN HMB.out.bel _⟩
      have r1' : decide (a < c) = false := decide_eq_false r1
      by_cases r2 : c = a
      · by_cases r3 : b ≤ d
        · have r3' : decide (b ≤ d) = true := decide_eq_true r3
          have HQ := Aside0.mk (HQF.out (fun h => by have := HLT.out.1 ((HE0.out.1 h).2 hj1); omega))
          subst r2
          go_quiet (fail)
          go_wp2
          go_ret
          exact ⟨⟨false, rfl, by simp only [Bool.false_eq_true, false_iff]; exact HQ.out⟩, pw_below_drewN HMB.out.bel _⟩
        · have r3' : decide (b ≤ d) = false := decide_eq_false r3
          have HF3 := Aside0.mk (HFS.out (HE0.out.2 ⟨HOK.out, fun h => HLT.out.2 (by omega)⟩))
          have hwr : IntKind.i64.wrap (j + 1) = j + 1 := IntWalk.i64_in _ (by omega)
          subst r2
          go_quiet (fail)
          go_wp2
          go_roundg (l.length - (j + 1).toNat)
          case measure => omega
          case rel => exact ⟨j + 1, by omega, by omega, Nat.le_refl _, rfl, ⟨HMB.out.below (pw_below_drewN (Below.refl _ _) _)⟩, ⟨pw_below_drewN HBB.out _⟩, HF3⟩
      · have HF3 := Aside0.mk (HFS.out (HE0.out.2 ⟨HOK.out, fun h => HLT.out.2 (by omega)⟩))
        have r2' : decide (c = a) = false := decide_eq_false r2
        have r2'' : (c == a) = false := beq_eq_false_iff_ne.2 r2
        have r2 := Aside0.mk r2
        have hwr : IntKind.i64.wrap (j + 1) = j + 1 := IntWalk.i64_in _ (by omega)
        go_quiet (fail)
        go_wp2
        go_roundg (l.length - (j + 1).toNat)
        case measure => omega
        case rel => exact ⟨j + 1, by omega, by omega, Nat.le_refl _, rfl, ⟨HMB.out.below (pw_below_drewN (Below.refl _ _) _)⟩, ⟨pw_below_drewN HBB.out _⟩, HF3⟩
end Go.Proofs.Ytkkfpmgmicfkfaa.X
set_option linter.unusedVariables false
/- braidworklaw19.TopoCalls. -/
namespace Go.Proofs.Ytkkfpmgmicfkfaa.X
open Go.RowKit Go.Proofs.YtkkfpmgmicfkfaaW.PrintWords Go.Proofs.YtkkfpmgmicfkfaaW.PrintLast Go.Proofs.YtkkfpmgmicfkfaaW.PrintMore Go.Proofs.Ytkkfpmgmicfkfaa
theorem cutU_twice (up : List Bool) : cutU (cutU up) = cutU up := by simp [cutU, List.take_take]
theorem cutH_twice (hops : List (List S40)) : cutH (cutH hops) = cutH hops := by
 have h : ((fun x : List S40 => x.take 140) ∘ fun x : List S40 => x.take 140) = fun x : List S40 => x.take 140 := by
  funext x
  simp [List.take_take]
 simp [cutH, List.map_take, List.take_take, h]
theorem cutU_len (up : List Bool) : (cutU up).length ≤ 80 := by simp [cutU]; omega
theorem cutH_len (hops : List (List S40)) : (cutH hops).length ≤ 5 := by simp [cutH]; omega
theorem cutH_row (hops : List (List S40)) : ∀ l ∈ cutH hops, l.length ≤ 140 := by
 intro l hl
 obtain ⟨x, _, rfl⟩ := List.mem_map.1 hl
 simp
 omega
theorem cutH_rdr (hops : List (List S40)) (flow : Int) : (Rows1.rdr (cutH hops) flow).length ≤ 140 := by
 unfold Rows1.rdr
 rw [List.getD_eq_getElem?_getD]
 cases h : (cutH hops)[flow.toNat]? with
 | none => simp
 | some l => exact cutH_row hops l (List.mem_of_getElem? h)
theorem cutH_edges (hops : List (List S40)) (flow : Int) : (edgesOf (cutH hops) flow).length ≤ 140 := by
 unfold edgesOf
 split
 · exact cutH_rdr hops flow
 · simp
/-- A box of three cells: what it holds when it has been written whole. -/
theorem box_put3 {W : World} {g t : Nat} {v0 v1 v2 : Value} (h : W.heap[g]? = some (.cells #[v0, v1, v2] t (0, 0))) (u0 u1 u2 : Value) :
 (((W.setCell ⟨g, 0, none⟩ u0).setCell ⟨g, 1, none⟩ u1).setCell ⟨g, 2, none⟩ u2).heap[g]? = some (.cells #[u0, u1, u2] t (0, 0)) := blk_put (blk_put (blk_put h 0 u0 rfl) 1 u1 rfl) 2 u2 rfl
theorem box_far3 {W : World} {g g' : Nat} {o : Obj} (h : W.heap[g']? = some o) (hne : g' ≠ g) (u0 u1 u2 : Value) : (((W.setCell ⟨g, 0, none⟩ u0).setCell ⟨g, 1, none⟩ u1).setCell ⟨g, 2, none⟩ u2).heap[g']? = some o := by
 rw [Below.heap_setCell _ _ _ _ hne, Below.heap_setCell _ _ _ _ hne, Below.heap_setCell _ _ _ _ hne]
 exact h
theorem R_set3 {α : Type} {d : Kd α} {e base : Nat} {ok : Nat → Prop} {v : Value} {xs : List α} {W : World} {g t : Nat} {v0 v1 v2 : Value} (h : d.R e W base ok v xs) (hb : W.heap[g]? = some (.cells #[v0, v1, v2] t (0, 0))) (ht : ∀ q, q ∈ e :: d.E → q ≠ t) (u0 u1 u2 : Value) :
 d.R e (((W.setCell ⟨g, 0, none⟩ u0).setCell ⟨g, 1, none⟩ u1).setCell ⟨g, 2, none⟩ u2) base ok v xs := Kd.R_set (Kd.R_set (Kd.R_set h hb ht _ _) (blk_put hb 0 u0 rfl) ht _ _) (blk_put (blk_put hb 0 u0 rfl) 1 u1 rfl) ht _ _
theorem below_set3 {w W : World} {g : Nat} (h : Below w.heap.size w W) (hg : w.heap.size ≤ g) (u0 u1 u2 : Value) : Below w.heap.size w (((W.setCell ⟨g, 0, none⟩ u0).setCell ⟨g, 1, none⟩ u1).setCell ⟨g, 2, none⟩ u2) := below_set (below_set (below_set h hg) hg) hg
/-- What stands when both topologies are cut. -/
structure TwoCut (w : World) (cf : Array Value) (ep1 ep2 : Int) (v1 v2 u1 u2 : Value) (U1 U2 : List Bool) (H1 H2 : List (List S40)) (W : World) : Prop where
 bc : W.heap[w.heap.size]? = some (.cells cf 24 (0, 0))
 bt : W.heap[w.heap.size + 1]? = some (.cells #[.int .u64 ep1, v1, v2] 29 (0, 0))
 bu : W.heap[w.heap.size + 1 + 1]? = some (.cells #[.int .u64 ep2, u1, u2] 29 (0, 0))
 r1 : Kd.R Kd.bool 4 W w.heap.size (fun _ => True) v1 U1
 r2 : Kd.R (Kd.slice 40 k40) 38 W w.heap.size (fun _ => True) v2 H1
 s1 : Kd.R Kd.bool 4 W w.heap.size (fun _ => True) u1 U2
 s2 : Kd.R (Kd.slice 40 k40) 38 W w.heap.size (fun _ => True) u2 H2
 bel : Below w.heap.size w W
theorem TwoCut.below {w : World} {cf : Array Value} {ep1 ep2 : Int} {v1 v2 u1 u2 : Value} {U1 U2 : List Bool} {H1 H2 : List (List S40)} {W W' : World} (h : TwoCut w cf ep1 ep2 v1 v2 u1 u2 U1 U2 H1 H2 W) (hb : Below W.heap.size W W') : TwoCut w cf ep1 ep2 v1 v2 u1 u2 U1 U2 H1 H2 W' :=
 ⟨(hb.block _ (blk_lt h.bc)).trans h.bc, (hb.block _ (blk_lt h.bt)).trans h.bt, (hb.block _ (blk_lt h.bu)).trans h.bu, Kd.R_below h.r1 hb, Kd.R_below h.r2 hb, Kd.R_below h.s1 hb, Kd.R_below h.s2 hb, below_then h.bel h.bel.size hb⟩
/-- All that is only read from here on. -/
structure Cx (w : World) (nodes : Int) (Af : Option Addr) (cf : Nat) (fl : List S124) (wd q ep1 ep2 : Int) (V1 : Option Addr) (e1 : Nat) (V2 : Option Addr) (e2 : Nat) (V3 : Option Addr) (e3 : Nat) (V4 : Option Addr) (e4 : Nat) (gm : Nat) (M1 : Option Addr) (k1 : Nat) (M2 : Option Addr) (k2 : Nat) (U1 U2 : List Bool) (H1 H2 : List (List S40)) (W : World) : Prop where
 bc : W.heap[w.heap.size]? = some (.cells #[.int .i64 nodes, .slice Af fl.length cf, .int .i64 wd, .int .i64 q] 24 (0, 0))
 bt : W.heap[w.heap.size + 1]? = some (.cells #[.int .u64 ep1, .slice V1 U1.length e1, .slice V2 H1.length e2] 29 (0, 0))
 bu : W.heap[w.heap.size + 1 + 1]? = some (.cells #[.int .u64 ep2, .slice V3 U2.length e3, .slice V4 H2.length e4] 29 (0, 0))
 bm : W.heap[gm]? = some (.cells #[.int .u64 ep1, .slice M1 U1.length k1, .slice M2 H1.length k2] 29 (0, 0))
 fs : Kd.C k124 W Af fl.length fl
 t1 : Kd.C Kd.bool W V1 U1.length U1
 t2 : Kd.C (Kd.slice 40 k40) W V2 H1.length H1
 u1 : Kd.C Kd.bool W V3 U2.length U2
 u2 : Kd.C (Kd.slice 40 k40) W V4 H2.length H2
 m1 : Kd.C Kd.bool W M1 U1.length U1
 m2 : Kd.C (Kd.slice 40 k40) W M2 H1.length H1
 bel : Below w.heap.size w W
theorem Cx.below {w : World} {nodes : Int} {Af : Option Addr} {cf : Nat} {fl : List S124} {wd q ep1 ep2 : Int} {V1 : Option Addr} {e1 : Nat} {V2 : Option Addr} {e2 : Nat} {V3 : Option Addr} {e3 : Nat} {V4 : Option Addr} {e4 : Nat} {gm : Nat} {M1 : Option Addr} {k1 : Nat} {M2 : Option Addr} {k2 : Nat} {U1 U2 : List Bool} {H1 H2 : List (List S40)} {W W' : World}
 (h : Cx w nodes Af cf fl wd q ep1 ep2 V1 e1 V2 e2 V3 e3 V4 e4 gm M1 k1 M2 k2 U1 U2 H1 H2 W) (hb : Below W.heap.size W W') : Cx w nodes Af cf fl wd q ep1 ep2 V1 e1 V2 e2 V3 e3 V4 e4 gm M1 k1 M2 k2 U1 U2 H1 H2 W' :=
 ⟨(hb.block _ (blk_lt h.bc)).trans h.bc, (hb.block _ (blk_lt h.bt)).trans h.bt, (hb.block _ (blk_lt h.bu)).trans h.bu, (hb.block _ (blk_lt h.bm)).trans h.bm, Kd.C_below h.fs hb, Kd.C_below h.t1 hb, Kd.C_below h.t2 hb, Kd.C_below h.u1 hb, Kd.C_below h.u2 hb, Kd.C_below h.m1 hb, Kd.C_below h.m2 hb, below_then h.bel h.bel.size hb⟩
theorem box4 {w : World} {g t : Nat} {v0 v1 v2 v3 : Value} (h : w.heap[g]? = some (.cells #[v0, v1, v2, v3] t (0, 0))) : w.cell? ⟨g, 0, none⟩ = some v0 ∧ w.cell? ⟨g, 1, none⟩ = some v1 ∧ w.cell? ⟨g, 2, none⟩ = some v2 ∧ w.cell? ⟨g, 3, none⟩ = some v3 :=
 ⟨(blk_cell h 0).trans rfl, (blk_cell h 1).trans rfl, (blk_cell h 2).trans rfl, (blk_cell h 3).trans rfl⟩
theorem Prs.far {W : World} {g g' n : Nat} (h : Prs W g n) (hne : g ≠ g') (q : Nat) (v : Value) : Prs (W.setCell ⟨g', q, none⟩ v) g n := by
 obtain ⟨cs, hg, hc⟩ := h
 exact ⟨cs, blk_far hg (p := ⟨g', q, none⟩) hne _, hc⟩
theorem Prs.below {W W' : World} {g n : Nat} (h : Prs W g n) (hb : Below W.heap.size W W') : Prs W' g n := by
 obtain ⟨cs, hg, hc⟩ := h
 exact ⟨cs, (hb.block _ (blk_lt hg)).trans hg, hc⟩
/-- A copy of a topology, whatever is written into it. -/
structure Xs (B gx : Nat) (ep : Int) (x1 x2 : Value) (n1 : Nat) (hs : List Rows1.Hd) (W : World) : Prop where
 bx : W.heap[gx]? = some (.cells #[.int .u64 ep, x1, x2] 29 (0, 0))
 r1 : ∃ l : List Bool, l.length = n1 ∧ Kd.R Kd.bool 4 W B (fun _ => True) x1 l
 r2 : Kd.R Rows1.hdr 38 W B (fun _ => True) x2 hs
 es : ∀ j (hj : j < hs.length), hs[j].2.1 = 0 ∨ ∃ g, hs[j].1 = some ⟨g, 0, none⟩ ∧ B ≤ g ∧ Prs W g hs[j].2.1
theorem Xs.below {B gx : Nat} {ep : Int} {x1 x2 : Value} {n1 : Nat} {hs : List Rows1.Hd} {W W' : World} (h : Xs B gx ep x1 x2 n1 hs W) (hb : Below W.heap.size W W') : Xs B gx ep x1 x2 n1 hs W' := by
 obtain ⟨l, hl, hr⟩ := h.r1
 refine ⟨(hb.block _ (blk_lt h.bx)).trans h.bx, ⟨l, hl, Kd.R_below hr hb⟩, Kd.R_below h.r2 hb, fun j hj => ?_⟩
 rcases h.es j hj with h0 | ⟨g, h1, h2, h3⟩
 · exact .inl h0
 · exact .inr ⟨g, h1, h2, h3.below hb⟩
theorem Xs.setUp {B gx : Nat} {ep : Int} {x2 : Value} {n1 g1 c1 : Nat} {hs : List Rows1.Hd} {W : World} (h : Xs B gx ep (.slice (some ⟨g1, 0, none⟩) n1 c1) x2 n1 hs W) (i : Int) (b : Bool) : Xs B gx ep (.slice (some ⟨g1, 0, none⟩) n1 c1) x2 n1 hs (W.setCell ⟨g1, i.toNat, none⟩ (.bool b)) := by
 obtain ⟨l, hl, hr⟩ := h.r1
 obtain ⟨cs, hg⟩ := Kd.R_typed hr g1 rfl
 refine ⟨blk_far h.bx (p := ⟨g1, i.toNat, none⟩) (blk_ne h.bx hg (by decide)) _, ⟨l.set i.toNat b, by simp [hl], Kd.R_putn hr i b⟩, Kd.R_set h.r2 hg (by decide) _ _, fun j hj => ?_⟩
 rcases h.es j hj with h0 | ⟨g, h1, h2, h3⟩
 · exact .inl h0
 · obtain ⟨cs3, hg3, _⟩ := id h3
   exact .inr ⟨g, h1, h2, h3.far (blk_ne hg3 hg (by decide)) _ _⟩
theorem Xs.setEdge {B gx : Nat} {ep : Int} {x1 x2 : Value} {n1 g : Nat} {hs : List Rows1.Hd} {W : World} (h : Xs B gx ep x1 x2 n1 hs W) {cs : Array Value} (hg : W.heap[g]? = some (.cells cs 40 (0, 0))) (q : Nat) (b : Int) : Xs B gx ep x1 x2 n1 hs (W.setCell ⟨g, q, none⟩ (.int .i64 b)) := by
 obtain ⟨l, hl, hr⟩ := h.r1
 refine ⟨blk_far h.bx (p := ⟨g, q, none⟩) (blk_ne h.bx hg (by decide)) _, ⟨l, hl, Kd.R_set hr hg (by decide) _ _⟩, Kd.R_set h.r2 hg (by decide) _ _, fun j hj => ?_⟩
 rcases h.es j hj with h0 | ⟨g', h1, h2, h3⟩
 · exact .inl h0
 · refine .inr ⟨g', h1, h2, ?_⟩
   by_cases e : g' = g
   · subst e
     exact h3.put q b
   · exact h3.far e _ _
theorem heads_rows {W : World} {B : Nat} {x2 : Value} {hs : List Rows1.Hd} {H : List (List S40)} {f : Nat → Nat} (h2 : Kd.R Rows1.hdr 38 W B (fun _ => True) x2 hs) (hl : hs.length = H.length)
 (h3 : ∀ j (hj : j < hs.length) (hx : j < H.length), Kd.R k40 40 W B (fun k => f k = j) (Rows1.hv hs[j]) H[j]) : ∃ X c, x2 = .slice X H.length c ∧ H.length ≤ c ∧ Kd.C (Kd.slice 40 k40) W X H.length H := by
 obtain ⟨X, c, rfl, hlc, hC⟩ := Kd.R_reads h2
 rw [hl]
 refine ⟨X, c, rfl, by omega, rfl, by have := hC.2.1; omega, fun hp => ?_⟩
 obtain ⟨ad, e, hc⟩ := hC.2.2 (by omega)
 refine ⟨ad, e, fun j p hj => ?_⟩
 obtain ⟨hjl, rfl⟩ := List.getElem?_eq_some_iff.1 hj
 have hjh : j < hs.length := by omega
 obtain ⟨cc, hcl, hK, hcell⟩ := hc j hs[j] (List.getElem?_eq_getElem hjh)
 have hK : cc = [Rows1.hv hs[j]] := hK
 subst hK
 obtain ⟨A', c', e', hl', hC'⟩ := Kd.R_reads (h3 j hjh hjl)
 exact ⟨[Rows1.hv hs[j]], rfl, ⟨A', c', by rw [e'], hl', hC'⟩, hcell⟩
theorem heads_prs {W : World} {B : Nat} {hs : List Rows1.Hd} {H : List (List S40)} {f : Nat → Nat} (hl : hs.length = H.length)
 (h3 : ∀ j (hj : j < hs.length) (hx : j < H.length), Kd.R k40 40 W B (fun k => f k = j) (Rows1.hv hs[j]) H[j]) : ∀ j (hj : j < hs.length), hs[j].2.1 = 0 ∨ ∃ g, hs[j].1 = some ⟨g, 0, none⟩ ∧ B ≤ g ∧ Prs W g hs[j].2.1 := by
 intro j hj
 have h := h3 j hj (by omega)
 rcases hq : hs[j] with ⟨A, n, c⟩
 rw [hq] at h
 have h : Kd.R k40 40 W B (fun k => f k = j) (.slice A n c) (H[j]'(by omega)) := h
 obtain ⟨hn, hnc, hC⟩ := Kd.R_reads' h
 cases A with
 | none =>
  left
  rcases Nat.eq_zero_or_pos n with h0 | h0
  · exact h0
  · obtain ⟨ad, e, _⟩ := hC.2.2 (by omega)
    cases e
 | some ad =>
  right
  obtain ⟨g, rfl⟩ := Kd.R_head h
  obtain ⟨cs, hg⟩ := Kd.R_typed h g rfl
  refine ⟨g, rfl, Kd.R_base h g rfl, ?_⟩
  show Prs W g n
  rw [hn]
  exact Prs.of hg hC
theorem both_order (ep : Int) (U : List Bool) (H : List (List S40)) (flow : Int) (h : ∀ f, (Rows1.rdr H f).length ≤ 140) : ∃ r n, topo_Order.f ep U H flow = some (r, n) ∧ braidworkref19_Order.f ep U H flow = some (r, n) := by
 have hl := h flow
 unfold topo_Order.f braidworkref19_Order.f
 by_cases hin : 0 ≤ flow ∧ flow < H.length
 · rw [if_pos hin, if_pos hin, if_pos (by omega), if_pos (by omega)]
   cases orderOf (Rows1.rdr H flow) with
   | none => exact ⟨_, _, rfl, rfl⟩
   | some r => exact ⟨_, _, rfl, rfl⟩
 · rw [if_neg hin, if_neg hin]
   exact ⟨_, _, rfl, rfl⟩
theorem same_self (l : List Int) (h : l.length ≤ 9223372036854775807) : braidworkref19_Same.f (l.length + 1) l l = some true := (same19_eq l l h _ (by omega)).trans (by simp)
/-- A call that tells a row of numbers; one that tells a yes or no. -/
def RowCall (f : Nat) (args : Array Value) (N : List Int) (W : World) : Prop := Calls Try.prog f args W fun e w' => ∃ A c, e = .returned (.slice A N.length c) ∧ Aside0 (N.length ≤ c ∧ Kd.C (Kd.int .i64) w' A N.length N) ∧ Below W.heap.size W w'
def BoolCall (f : Nat) (args : Array Value) (b : Bool) (W : World) : Prop := Calls Try.prog f args W fun e w' => e = .returned (.bool b) ∧ Below W.heap.size W w'
theorem row_call {f : Nat} {args : Array Value} {N : List Int} {W : World} (h : Calls Try.prog f args W fun e w' => ∃ v0_ : Value, e = .returned v0_ ∧ Kd.R (Kd.int .i64) 3 w' W.heap.size (fun _ => True) v0_ N ∧ Below W.heap.size W w') : RowCall f args N W := by
 refine h.mono ?_
 rintro e w' ⟨v, rfl, hR, hb⟩
 obtain ⟨A, c, rfl, hl, hC⟩ := Kd.R_reads hR
 exact ⟨A, c, rfl, ⟨hl, hC⟩, hb⟩
theorem same_call (N : List Int) (A A' : Option Addr) (c c' : Nat) (W : World) (h1 : N.length ≤ c ∧ Kd.C (Kd.int .i64) W A N.length N) (h2 : N.length ≤ c' ∧ Kd.C (Kd.int .i64) W A' N.length N) : BoolCall 19 #[.slice A N.length c, .slice A' N.length c'] true W := by
 refine (braidworkref19_Same.calls (N.length + 1) A c N A' c' N true W h1.2 h1.1 h2.2 h2.1 (same_self N h1.2.2.1)).mono ?_
 rintro e w' ⟨rfl, hd⟩
 exact ⟨rfl, hd.below⟩
set_option maxHeartbeats 8000000 in
set_option maxRecDepth 100000 in
theorem topoCalls_any (nodes : Int) (Af : Option Addr) (cf : Nat) (fl : List S124) (wd q : Int) (ep1 : Int) (A1 : Option Addr) (c1 : Nat) (up1 : List Bool) (A2 : Option Addr) (c2 : Nat) (hops1 : List (List S40)) (ep2 : Int) (B1 : Option Addr) (d1 : Nat) (up2 : List Bool) (B2 : Option Addr) (d2 : Nat) (hops2 : List (List S40)) (flow node dest : Int) (w : World)
 (he1 : 0 ≤ ep1) (hf : Kd.C k124 w Af fl.length fl) (hfc : fl.length ≤ cf) (hu1 : Kd.C Kd.bool w A1 up1.length up1) (hu1c : up1.length ≤ c1) (hh1 : Kd.C (Kd.slice 40 k40) w A2 hops1.length hops1) (hh1c : hops1.length ≤ c2) (hu2 : Kd.C Kd.bool w B1 up2.length up2) (hu2c : up2.length ≤ d1) (hh2 : Kd.C (Kd.slice 40 k40) w B2 hops2.length hops2) (hh2c : hops2.length ≤ d2) :
 Calls Try.prog 3 #[.agg #[.int .i64 nodes, .slice Af fl.length cf, .int .i64 wd, .int .i64 q], .agg #[.int .u64 ep1, .slice A1 up1.length c1, .slice A2 hops1.length c2], .agg #[.int .u64 ep2, .slice B1 up2.length d1, .slice B2 hops2.length d2], .int .i64 flow, .int .i64 node, .int .i64 dest] w fun e w' => e = .returned (.bool true) ∧ Below w.heap.size w w' := by
 have HF := Aside0.mk hf
 have HCT := Aside0.mk (fun (W : World) (hW : Below w.heap.size w W) => cut_any ep1 A1 c1 up1 A2 c2 hops1 W (Kd.C_below hu1 hW) hu1c (Kd.C_below hh1 hW) hh1c)
 have HCU := Aside0.mk (fun (W : World) (hW : Below w.heap.size w W) => cut_any ep2 B1 d1 up2 B2 d2 hops2 W (Kd.C_below hu2 hW) hu2c (Kd.C_below hh2 hW) hh2c)
 have HFC := Aside0.mk hfc
 have HE1 := Aside0.mk he1
 clear hf hfc hu1 hu1c hh1 hh1c hu2 hu2c hh2 hh2c he1
 go_enter Try.func3, Try.ntmps3
 go_wp2_with fail
 have hb0 : Below w.heap.size w (((w.alloc (.cells #[.int .i64 nodes, .slice Af fl.length cf, .int .i64 wd, .int .i64 q] 24)).alloc (.cells #[.int .u64 ep1, .slice A1 up1.length c1, .slice A2 hops1.length c2] 29)).alloc (.cells #[.int .u64 ep2, .slice B1 up2.length d1, .slice B2 hops2.length d2] 29)) := below_alloc (below_alloc (below_alloc (Below.refl _ _) _) _) _
 have hX0 := blk_alloc (blk_alloc (blk_new w (.cells #[.int .i64 nodes, .slice Af fl.length cf, .int .i64 wd, .int .i64 q] 24)) (.cells #[.int .u64 ep1, .slice A1 up1.length c1, .slice A2 hops1.length c2] 29)) (.cells #[.int .u64 ep2, .slice B1 up2.length d1, .slice B2 hops2.length d2] 29)
 have hX1 := blk_alloc (blk_new (w.alloc (.cells #[.int .i64 nodes, .slice Af fl.length cf, .int .i64 wd, .int .i64 q] 24)) (.cells #[.int .u64 ep1, .slice A1 up1.length c1, .slice A2 hops1.length c2] 29)) (.cells #[.int .u64 ep2, .slice B1 up2.length d1, .slice B2 hops2.length d2] 29)
 have hX2 := blk_new ((w.alloc (.cells #[.int .i64 nodes, .slice Af fl.length cf, .int .i64 wd, .int .i64 q] 24)).alloc (.cells #[.int .u64 ep1, .slice A1 up1.length c1, .slice A2 hops1.length c2] 29)) (.cells #[.int .u64 ep2, .slice B1 up2.length d1, .slice B2 hops2.length d2] 29)
 rw [show (w.alloc (.cells #[.int .i64 nodes, .slice Af fl.length cf, .int .i64 wd, .int .i64 q] 24)).heap.size = w.heap.size + 1 by simp] at hX1
 rw [show ((w.alloc (.cells #[.int .i64 nodes, .slice Af fl.length cf, .int .i64 wd, .int .i64 q] 24)).alloc (.cells #[.int .u64 ep1, .slice A1 up1.length c1, .slice A2 hops1.length c2] 29)).heap.size = w.heap.size + 1 + 1 by simp] at hX2
 generalize hW : (((w.alloc (.cells #[.int .i64 nodes, .slice Af fl.length cf, .int .i64 wd, .int .i64 q] 24)).alloc (.cells #[.int .u64 ep1, .slice A1 up1.length c1, .slice A2 hops1.length c2] 29)).alloc (.cells #[.int .u64 ep2, .slice B1 up2.length d1, .slice B2 hops2.length d2] 29)) = w1 at hb0 hX0 hX1 hX2 ⊢
 clear hW
 have hx := box3 hX1
 have hy := box3 hX2
 have hlt := blk_lt hX2
 have hx0 : w1.drew.cell? ⟨w.heap.size + 1, 0, none⟩ = some (.int .u64 ep1) := hx.1
 have hx1 : w1.drew.cell? ⟨w.heap.size + 1, 1, none⟩ = some (.slice A1 up1.length c1) := hx.2.1
 have hx2 : w1.drew.cell? ⟨w.heap.size + 1, 2, none⟩ = some (.slice A2 hops1.length c2) := hx.2.2.1
 refine Until.region (S := fun W => W.cell? ⟨w.heap.size + 1 + 1, 0, none⟩ = some (.int .u64 ep2) ∧ W.cell? ⟨w.heap.size + 1 + 1, 1, none⟩ = some (.slice B1 up2.length d1) ∧ W.cell? ⟨w.heap.size + 1 + 1, 2, none⟩ = some (.slice B2 hops2.length d2)) 5 (by kernel_rfl) ⟨hy.1, hy.2.1, hy.2.2.1⟩ (fun hS => ?_)
 refine Until.take (i := 2) (v := ?_) rfl (by kernel_rfl) (by kernel_rfl) (by kernel_rfl) (by kernel_rfl) (fun _ _ _ h => h) (Or.inl ⟨by rfl, ?_⟩) (by first | assumption | exact hS (by decide)) ?_
 rotate_left 1
 · intro W hW; (try dsimp only at hW); (try obtain ⟨k0, k1, k2⟩ := hW); go_simp; (try with_reducible rfl)
 (try simp only [Act.put, List.setIfInBounds_toArray, List.set_cons_zero, List.set_cons_succ])
 refine Until.only (i := 0) rfl (by kernel_rfl) (fun K hK => ?_)
 go_simp
 refine hK.out _ _ (fun _ => ⟨hy.1, hy.2.1, hy.2.2.1⟩) (fun hS => ?_)
 clear hK hx0 hx1 hx2
 (try simp only [Act.put, List.setIfInBounds_toArray, List.set_cons_zero, List.set_cons_succ])
 refine Until.only (i := 1) rfl (by kernel_rfl) (fun K hK => ?_)
 go_simp
 refine (HCT.out _ (below_drew hb0)).mono ?_
 rintro e w2 ⟨v1, v2, rfl, hr1, hr2, hb2⟩
 obtain ⟨V1, e1, rfl⟩ := Kd.R_slice hr1
 obtain ⟨V2, e2, rfl⟩ := Kd.R_slice hr2
 have hb2 : Below w1.heap.size w1 w2 := ⟨hb2.os, hb2.tape, hb2.output, hb2.size, hb2.block⟩
 refine hK.out _ _ (fun _ => ⟨pw_cell_below hb2 hy.1, pw_cell_below hb2 hy.2.1, pw_cell_below hb2 hy.2.2.1⟩) (fun hS => ?_)
 clear hK
 (try simp only [Act.put, List.setIfInBounds_toArray, List.set_cons_zero, List.set_cons_succ])
 refine Until.only (i := 3) rfl (by kernel_rfl) (fun K hK => ?_)
 go_simp
 refine (HCU.out _ (below_then hb0 hb0.size hb2)).mono ?_
 rintro e w3 ⟨u1, u2, rfl, hs1, hs2, hb3⟩
 obtain ⟨V3, e3, rfl⟩ := Kd.R_slice hs1
 obtain ⟨V4, e4, rfl⟩ := Kd.R_slice hs2
 have hb23 : Below w1.heap.size w1 w3 := below_then hb2 hb2.size hb3
 refine hK.out _ _ (fun _ => ⟨pw_cell_below hb23 hy.1, pw_cell_below hb23 hy.2.1, pw_cell_below hb23 hy.2.2.1⟩) (fun hS => ?_)
 clear hK hx hy
 (try simp only [Act.put, List.setIfInBounds_toArray, List.set_cons_zero, List.set_cons_succ])
 have hT : TwoCut w #[.int .i64 nodes, .slice Af fl.length cf, .int .i64 wd, .int .i64 q] ep1 ep2 (.slice A1 up1.length c1) (.slice A2 hops1.length c2) (.slice B1 up2.length d1) (.slice B2 hops2.length d2) [] [] [] [] w3 ∨ True := .inr trivial
 have hX0 := (hb23.block _ (blk_lt hX0)).trans hX0
 have hX1 := (hb23.block _ (blk_lt hX1)).trans hX1
 have hX2 := (hb23.block _ (blk_lt hX2)).trans hX2
 have hr1 := Kd.R_lower (Kd.R_below hr1 hb3) hb0.size
 have hr2 := Kd.R_lower (Kd.R_below hr2 hb3) hb0.size
 have hs1 := Kd.R_lower hs1 (Nat.le_trans hb0.size hb2.size)
 have hs2 := Kd.R_lower hs2 (Nat.le_trans hb0.size hb2.size)
 have hbw := below_then hb0 hb0.size hb23
 clear hb2 hb3 hb23 hb0 hT hlt
 obtain ⟨p0, p1, p2, f0, f1, f2⟩ := box3 hX1
 have hX1' := box_put3 hX1 (.int .u64 ep1) (.slice V1 (cutU up1).length e1) (.slice V2 (cutH hops1).length e2)
 have hX0' := box_far3 hX0 (g := w.heap.size + 1) (by omega) (.int .u64 ep1) (.slice V1 (cutU up1).length e1) (.slice V2 (cutH hops1).length e2)
 have hX2' := box_far3 hX2 (g := w.heap.size + 1) (by omega) (.int .u64 ep1) (.slice V1 (cutU up1).length e1) (.slice V2 (cutH hops1).length e2)
 have hr1' := R_set3 hr1 hX1 (by decide) (.int .u64 ep1) (.slice V1 (cutU up1).length e1) (.slice V2 (cutH hops1).length e2)
 have hr2' := R_set3 hr2 hX1 (by decide) (.int .u64 ep1) (.slice V1 (cutU up1).length e1) (.slice V2 (cutH hops1).length e2)
 have hs1' := R_set3 hs1 hX1 (by decide) (.int .u64 ep1) (.slice V1 (cutU up1).length e1) (.slice V2 (cutH hops1).length e2)
 have hs2' := R_set3 hs2 hX1 (by decide) (.int .u64 ep1) (.slice V1 (cutU up1).length e1) (.slice V2 (cutH hops1).length e2)
 have hbw' := below_set3 hbw (g := w.heap.size + 1) (by omega) (.int .u64 ep1) (.slice V1 (cutU up1).length e1) (.slice V2 (cutH hops1).length e2)
 refine Until.only (i := 4) rfl (by kernel_rfl) (fun K hK => ?_)
 go_simp
 clear p0 p1 p2 f0 f1 f2 hX0 hX1 hX2 hr1 hr2 hs1 hs2 hbw
 generalize (((w3.setCell ⟨w.heap.size + 1, 0, none⟩ (.int .u64 ep1)).setCell ⟨w.heap.size + 1, 1, none⟩ (.slice V1 (cutU up1).length e1)).setCell ⟨w.heap.size + 1, 2, none⟩ (.slice V2 (cutH hops1).length e2)) = w4 at hX0' hX1' hX2' hr1' hr2' hs1' hs2' hbw' hK ⊢
 have hy := box3 hX2'
 refine hK.out _ _ (fun _ => ⟨hy.1, hy.2.1, hy.2.2.1⟩) (fun hS => ?_)
 clear hK hy
 (try simp only [Act.put, List.setIfInBounds_toArray, List.set_cons_zero, List.set_cons_succ])
 obtain ⟨p0, p1, p2, f0, f1, f2⟩ := box3 hX2'
 have hX2 := box_put3 hX2' (.int .u64 ep2) (.slice V3 (cutU up2).length e3) (.slice V4 (cutH hops2).length e4)
 have hX0 := box_far3 hX0' (g := w.heap.size + 1 + 1) (by omega) (.int .u64 ep2) (.slice V3 (cutU up2).length e3) (.slice V4 (cutH hops2).length e4)
 have hX1 := box_far3 hX1' (g := w.heap.size + 1 + 1) (by omega) (.int .u64 ep2) (.slice V3 (cutU up2).length e3) (.slice V4 (cutH hops2).length e4)
 have hr1 := R_set3 hr1' hX2' (by decide) (.int .u64 ep2) (.slice V3 (cutU up2).length e3) (.slice V4 (cutH hops2).length e4)
 have hr2 := R_set3 hr2' hX2' (by decide) (.int .u64 ep2) (.slice V3 (cutU up2).length e3) (.slice V4 (cutH hops2).length e4)
 have hs1 := R_set3 hs1' hX2' (by decide) (.int .u64 ep2) (.slice V3 (cutU up2).length e3) (.slice V4 (cutH hops2).length e4)
 have hs2 := R_set3 hs2' hX2' (by decide) (.int .u64 ep2) (.slice V3 (cutU up2).length e3) (.slice V4 (cutH hops2).length e4)
 have hbw := below_set3 hbw' (g := w.heap.size + 1 + 1) (by omega) (.int .u64 ep2) (.slice V3 (cutU up2).length e3) (.slice V4 (cutH hops2).length e4)
 refine Until.only (i := 5) rfl (by kernel_rfl) (fun K hK => ?_)
 go_simp
 refine hK.out _ _ (fun h => absurd h (by decide)) (fun hS => ?_)
 clear hK
 refine Until.done (by kernel_rfl) ?_ _
 have hT : TwoCut w #[.int .i64 nodes, .slice Af fl.length cf, .int .i64 wd, .int .i64 q] ep1 ep2 (.slice V1 (cutU up1).length e1) (.slice V2 (cutH hops1).length e2) (.slice V3 (cutU up2).length e3) (.slice V4 (cutH hops2).length e4) (cutU up1) (cutU up2) (cutH hops1) (cutH hops2) _ := ⟨hX0, hX1, hX2, hr1, hr2, hs1, hs2, hbw⟩
 clear hX0 hX1 hX2 hr1 hr2 hs1 hs2 hbw hX0' hX1' hX2' hr1' hr2' hs1' hs2' hbw' p0 p1 p2 f0 f1 f2 hS
 generalize (((w4.setCell ⟨w.heap.size + 1 + 1, 0, none⟩ (.int .u64 ep2)).setCell ⟨w.heap.size + 1 + 1, 1, none⟩ (.slice V3 (cutU up2).length e3)).setCell ⟨w.heap.size + 1 + 1, 2, none⟩ (.slice V4 (cutH hops2).length e4)) = w5 at hT ⊢
 obtain ⟨V1l, V1c⟩ := (Kd.R_reads' hT.r1).2
 obtain ⟨V2l, V2c⟩ := (Kd.R_reads' hT.r2).2
 have HT := Aside0.mk hT
 obtain ⟨p0, p1, p2, f0, f1, f2⟩ := box3 hT.bt
 have HV1 := Aside0.mk V1c
 have HV2 := Aside0.mk V2c
 clear hT V1c V2c f0 f1 f2
 go_wp2_with fail
 refine (cut_any ep1 V1 e1 (cutU up1) V2 e2 (cutH hops1) w5 HV1.out V1l HV2.out V2l).mono ?_
 rintro e w6 ⟨m1, m2, rfl, hm1, hm2, hb6⟩
 rw [cutU_twice] at hm1
 rw [cutH_twice] at hm2
 obtain ⟨M1, k1, rfl⟩ := Kd.R_slice hm1
 obtain ⟨M2, k2, rfl⟩ := Kd.R_slice hm2
 have hT6 := HT.out.below hb6
 have hA := Kd.R_reads' hm1
 have hB := Kd.R_reads' hm2
 have HC := Aside0.mk (show (cutU up1).length ≤ e1 ∧ (cutH hops1).length ≤ e2 ∧ (cutU up2).length ≤ e3 ∧ (cutH hops2).length ≤ e4 ∧ (cutU up1).length ≤ k1 ∧ (cutH hops1).length ≤ k2 from ⟨V1l, V2l, (Kd.R_reads' hT6.s1).2.1, (Kd.R_reads' hT6.s2).2.1, hA.2.1, hB.2.1⟩)
 have hal := below_alloc (Below.refl w6.heap.size w6) (.cells #[.int .u64 ep1, .slice M1 (cutU up1).length k1, .slice M2 (cutH hops1).length k2] 29)
 have hT7 := hT6.below hal
 have HX : Aside0 (Cx w nodes Af cf fl wd q ep1 ep2 V1 e1 V2 e2 V3 e3 V4 e4 w6.heap.size M1 k1 M2 k2 (cutU up1) (cutU up2) (cutH hops1) (cutH hops2) (w6.alloc (.cells #[.int .u64 ep1, .slice M1 (cutU up1).length k1, .slice M2 (cutH hops1).length k2] 29))) :=
  ⟨⟨hT7.bc, hT7.bt, hT7.bu, blk_new _ _, Kd.C_below HF.out hT7.bel, (Kd.R_reads' hT7.r1).2.2, (Kd.R_reads' hT7.r2).2.2, (Kd.R_reads' hT7.s1).2.2, (Kd.R_reads' hT7.s2).2.2, Kd.C_below hA.2.2 hal, Kd.C_below hB.2.2 hal, hT7.bel⟩⟩
 clear HT HV1 HV2 p0 p1 p2 V1l V2l hm1 hm2 hb6 hT6 hT7 hal hA hB HF HCT HCU
 go_wp2_with fail
 generalize (w6.alloc (.cells #[.int .u64 ep1, .slice M1 (cutU up1).length k1, .slice M2 (cutH hops1).length k2] 29)) = w7 at HX ⊢
 generalize w6.heap.size = gm at HX ⊢
 have HLU := Aside0.mk (cutU_len up1)
 have HLH := Aside0.mk (cutH_len hops1)
 have HLR := Aside0.mk (cutH_row hops1)
 have HLE := Aside0.mk (cutH_edges hops1)
 have HLU2 := Aside0.mk (cutU_len up2)
 have HLR2 := Aside0.mk (cutH_row hops2)
 have HLH2 := Aside0.mk (cutH_len hops2)
 obtain ⟨r, n, ho1, ho2⟩ := both_order ep1 (cutU up1) (cutH hops1) flow (cutH_rdr hops1)
 generalize cutU up1 = U1 at HX HC HLU ho1 ho2 ⊢
 generalize cutU up2 = U2 at HX HC HLU2 ⊢
 generalize cutH hops1 = H1 at HX HC HLH HLR HLE ho1 ho2 ⊢
 generalize cutH hops2 = H2 at HX HC HLR2 HLH2 ⊢
 have ho1 := Aside0.mk ho1
 have ho2 := Aside0.mk ho2
 refine (topo_Order.calls ep1 M1 k1 U1 M2 k2 H1 flow r n w7 HX.out.m1 HC.out.2.2.2.2.1 HX.out.m2 HC.out.2.2.2.2.2 ho1.out).mono ?_
 rintro e w8 ⟨o0, rfl, hO, hb8⟩
 obtain ⟨Ao, co, rfl⟩ := Kd.R_slice hO
 have HO8 := Aside0.mk (Kd.R_reads' hO)
 have HX8 := Aside0.mk (HX.out.below hb8)
 clear hb8 hO HX
 obtain ⟨p0, p1, p2, _, _, _⟩ := box3 HX8.out.bt
 go_wp2_with fail
 refine (braidworkref19_Order.calls ep1 V1 e1 U1 V2 e2 H1 flow r n w8 HX8.out.t1 HC.out.1 HX8.out.t2 HC.out.2.1 ho2.out).mono ?_
 rintro e w9 ⟨q0, rfl, hP, hb9⟩
 obtain ⟨Ap, cp, rfl⟩ := Kd.R_slice hP
 have HP9 := Aside0.mk (Kd.R_reads' hP)
 have HO9 := Aside0.mk (Kd.C_below HO8.out.2.2 hb9)
 have HOc := Aside0.mk HO8.out.2.1
 have HX9 := Aside0.mk (HX8.out.below hb9)
 clear hb9 hP HX8 HO8 p0 p1 p2
 obtain ⟨p0, p1, p2, _, _, _⟩ := box3 HX9.out.bm
 go_wp2_with fail
 refine (topo_copy ep1 M1 k1 U1 M2 k2 H1 w9 HX9.out.m1 HX9.out.m2 (by have := HLU.out; omega) (by have := HLH.out; omega) (fun l hl => by have := HLR.out l hl; omega)).mono ?_
 rintro e w10 ⟨x1, x2, hs, f, rfl, hsl, hx1, hx2, hx3, hb10⟩
 obtain ⟨Y1, y1, rfl⟩ := Kd.R_slice hx1
 obtain ⟨Y2, y2, rfl, hyl2, hyC2⟩ := heads_rows hx2 hsl.out hx3.out
 obtain ⟨_, hyl1, hyC1⟩ := Kd.R_reads' hx1
 have hal := below_alloc (Below.refl w10.heap.size w10) (.cells #[.int .u64 ep1, .slice Y1 U1.length y1, .slice Y2 H1.length y2] 29)
 have h9 := below_then hb10 hb10.size hal
 have HXs : Aside0 (Xs w9.heap.size w10.heap.size ep1 (.slice Y1 U1.length y1) (.slice Y2 H1.length y2) U1.length hs (w10.alloc (.cells #[.int .u64 ep1, .slice Y1 U1.length y1, .slice Y2 H1.length y2] 29))) :=
  ⟨⟨blk_new _ _, ⟨U1, rfl, Kd.R_alloc hx1 _⟩, Kd.R_alloc hx2 _, fun j hj => by
   rcases heads_prs hsl.out hx3.out j hj with h0 | ⟨g, h1, h2, h3⟩
   · exact .inl h0
   · exact .inr ⟨g, h1, h2, h3.below hal⟩⟩⟩
 have HB9 := Aside0.mk h9
 have HY := Aside0.mk (And.intro (Kd.C_below hyC1 hal) (Kd.C_below hyC2 hal))
 have HYL := Aside0.mk (And.intro hyl1 hyl2)
 have hgx : w9.heap.size ≤ w10.heap.size := hb10.size
 have HN := Aside0.mk (show ∀ j (hj : j < hs.length), hs[j].2.1 ≤ 140 from fun j hj => by
  have h1 : Kd.R k40 40 w10 w9.heap.size (fun k => f k = j) (.slice hs[j].1 hs[j].2.1 hs[j].2.2) (H1[j]'(by have := hsl.out; omega)) := hx3.out j hj (by have := hsl.out; omega)
  have h2 := HLR.out _ (List.getElem_mem (show j < H1.length by have := hsl.out; omega))
  have h3 := (Kd.R_reads' h1).1
  omega)
 clear hx1 hx2 hx3 hyC1 hyC2 hyl1 hyl2 hal h9 hb10 p0 p1 p2
 go_wp2_with fail
 generalize (w10.alloc (.cells #[.int .u64 ep1, .slice Y1 U1.length y1, .slice Y2 H1.length y2] 29)) = w11 at HXs HB9 HY ⊢
 generalize w10.heap.size = gx at HXs hgx ⊢
 have HX11 := Aside0.mk (HX9.out.below HB9.out)
 obtain ⟨q0, q1, q2, _, _, _⟩ := box3 HX11.out.bt
 obtain ⟨q3, q4, q5, _, _, _⟩ := box3 HX11.out.bu
 obtain ⟨q6, q7, q8, _, _, _⟩ := box3 HX11.out.bm
 obtain ⟨q9, q10, q11, _, _, _⟩ := box3 HXs.out.bx
 have keepS : ∀ W, Below w11.heap.size w11 W → (Below w11.heap.size w11 W ∧ W.cell? ⟨w.heap.size + 1, 0, none⟩ = some (.int .u64 ep1) ∧ W.cell? ⟨w.heap.size + 1, 1, none⟩ = some (.slice V1 U1.length e1) ∧ W.cell? ⟨w.heap.size + 1, 2, none⟩ = some (.slice V2 H1.length e2) ∧ W.cell? ⟨w.heap.size + 1 + 1, 0, none⟩ = some (.int .u64 ep2) ∧ W.cell? ⟨w.heap.size + 1 + 1, 1, none⟩ = some (.slice V3 U2.length e3) ∧ W.cell? ⟨w.heap.size + 1 + 1, 2, none⟩ = some (.slice V4 H2.length e4) ∧ W.cell? ⟨gm, 0, none⟩ = some (.int .u64 ep1) ∧ W.cell? ⟨gm, 1, none⟩ = some (.slice M1 U1.length k1) ∧ W.cell? ⟨gm, 2, none⟩ = some (.slice M2 H1.length k2) ∧ W.cell? ⟨gx, 0, none⟩ = some (.int .u64 ep1) ∧ W.cell? ⟨gx, 1, none⟩ = some (.slice Y1 U1.length y1) ∧ W.cell? ⟨gx, 2, none⟩ = some (.slice Y2 H1.length y2)) := fun W hW => ⟨hW, pw_cell_below hW q0, pw_cell_below hW q1, pw_cell_below hW q2, pw_cell_below hW q3, pw_cell_below hW q4, pw_cell_below hW q5, pw_cell_below hW q6, pw_cell_below hW q7, pw_cell_below hW q8, pw_cell_below hW q9, pw_cell_below hW q10, pw_cell_below hW q11⟩
 have KS := Aside0.mk keepS
 clear keepS q0 q1 q2 q3 q4 q5 q6 q7 q8 q9 q10 q11
 have HS1 := Aside0.mk (show braidworkref12_SameTopo.f 1000 ep1 U1 H1 ep1 U1 H1 = some true from (sameTopo_eq 140 ep1 ep1 U1 U1 H1 H1 (by have := HLH.out; omega) (by have := HLU.out; omega) HLR.out (by omega) 1000 (by have := HLU.out; have := HLH.out; have := Nat.mul_le_mul_right 142 HLH.out; omega)).trans (by simp))
 have HS2 := Aside0.mk (sameTopo_eq 140 ep1 ep2 U1 U2 H1 H2 (by have := HLH.out; omega) (by have := HLU.out; omega) HLR.out (by omega) 1000 (by have := HLU.out; have := HLH.out; have := Nat.mul_le_mul_right 142 HLH.out; omega))
 have HRW := Aside0.mk (fun (W : World) (hW : Below w11.heap.size w11 W) => (And.intro (HX11.out.below hW) (And.intro (Kd.C_below HY.out.1 hW) (Kd.C_below HY.out.2 hW))))
 have HSM := Aside0.mk (fun (W : World) (hW : Below w11.heap.size w11 W) => topo_same ep1 M1 k1 U1 M2 k2 H1 ep2 V3 e3 U2 V4 e4 H2 W (HX11.out.below hW).m1 HC.out.2.2.2.2.1 (HX11.out.below hW).u1 HC.out.2.2.1 (HX11.out.below hW).m2 (HX11.out.below hW).u2 (fun l hl => by have := HLR.out l hl; omega))
 generalize decide (ep1 = ep2 ∧ U1 = U2 ∧ H1 = H2) = bb at HS2 HSM
 go_region_held3 (fun W => Below w11.heap.size w11 W ∧ W.cell? ⟨w.heap.size + 1, 0, none⟩ = some (.int .u64 ep1) ∧ W.cell? ⟨w.heap.size + 1, 1, none⟩ = some (.slice V1 U1.length e1) ∧ W.cell? ⟨w.heap.size + 1, 2, none⟩ = some (.slice V2 H1.length e2) ∧ W.cell? ⟨w.heap.size + 1 + 1, 0, none⟩ = some (.int .u64 ep2) ∧ W.cell? ⟨w.heap.size + 1 + 1, 1, none⟩ = some (.slice V3 U2.length e3) ∧ W.cell? ⟨w.heap.size + 1 + 1, 2, none⟩ = some (.slice V4 H2.length e4) ∧ W.cell? ⟨gm, 0, none⟩ = some (.int .u64 ep1) ∧ W.cell? ⟨gm, 1, none⟩ = some (.slice M1 U1.length k1) ∧ W.cell? ⟨gm, 2, none⟩ = some (.slice M2 H1.length k2) ∧ W.cell? ⟨gx, 0, none⟩ = some (.int .u64 ep1) ∧ W.cell? ⟨gx, 1, none⟩ = some (.slice Y1 U1.length y1) ∧ W.cell? ⟨gx, 2, none⟩ = some (.slice Y2 H1.length y2))
  (first
   | exact KS.out _ (below_drew (Below.refl _ _))
   | exact KS.out _ (below_then (‹Below w11.heap.size w11 _ ∧ _›).1 (‹Below w11.heap.size w11 _ ∧ _›).1.size hbA)
   | exact KS.out _ (below_then (‹Below w11.heap.size w11 _ ∧ _›).1 (‹Below w11.heap.size w11 _ ∧ _›).1.size hbB)
   | exact KS.out _ (below_then (‹Below w11.heap.size w11 _ ∧ _›).1 (‹Below w11.heap.size w11 _ ∧ _›).1.size hbC)
   | assumption)
  (first
   | (go_at_call 18; refine (HSM.out _ (‹Below w11.heap.size w11 _ ∧ _›).1).mono ?_; rintro e w13 ⟨rfl, hbB⟩)
   | (go_at_call_of 17 (Value.agg #[.int .u64 ep1, .slice Y1 U1.length y1, .slice Y2 H1.length y2]); have hh := HRW.out _ (‹Below w11.heap.size w11 _ ∧ _›).1; refine (braidworkref12_SameTopo.calls 1000 ep1 Y1 y1 U1 Y2 y2 H1 ep1 V1 e1 U1 V2 e2 H1 true _ hh.2.1 HYL.out.1 hh.2.2 HYL.out.2 hh.1.t1 HC.out.1 hh.1.t2 HC.out.2.1 HS1.out).mono ?_; rintro e w12 ⟨rfl, hbA⟩; clear hh)
   | (go_at_call_of 17 (Value.agg #[.int .u64 ep1, .slice V1 U1.length e1, .slice V2 H1.length e2]); have hh := HRW.out _ (‹Below w11.heap.size w11 _ ∧ _›).1; refine (braidworkref12_SameTopo.calls 1000 ep1 V1 e1 U1 V2 e2 H1 ep2 V3 e3 U2 V4 e4 H2 bb _ hh.1.t1 HC.out.1 hh.1.t2 HC.out.2.1 hh.1.u1 HC.out.2.2.1 hh.1.u2 HC.out.2.2.2.1 HS2.out).mono ?_; rintro e w14 ⟨rfl, hbC⟩; clear hh))
 have hB14 := (‹Below w11.heap.size w11 _ ∧ _›).1
 have HXs14 := Aside0.mk (HXs.out.below hB14)
 have HB14 := Aside0.mk (below_then HB9.out HB9.out.size hB14)
 clear hB14 hbA hbB hbC KS HS1 HS2 HRW HSM HX11 HXs HB9 HY HYL
 go_wp2_with fail
 go_loopg [19] U1.length (fun gg v19 W => ∃ i : Int, 0 ≤ i ∧ i ≤ U1.length ∧ U1.length - i.toNat ≤ gg ∧ v19 = .int .i64 i ∧ Aside0 (Xs w9.heap.size gx ep1 (.slice Y1 U1.length y1) (.slice Y2 H1.length y2) U1.length hs W) ∧ Aside0 (Below w9.heap.size w9 W))
 case atStart => exact ⟨0, by omega, by omega, by omega, rfl, HXs14, HB14⟩
 case round =>
  clear HXs14 HB14
  obtain ⟨i, hi0, hi1, hg, rfl, HXs, HB⟩ := hrel
  obtain ⟨a0, a1, a2, _, _, _⟩ := box3 HXs.out.bx
  have hul : U1.length ≤ 9223372036854775807 := by have := HLU.out; omega
  by_cases hi : i < U1.length
  · obtain ⟨l, hl, hr⟩ := HXs.out.r1
    rcases Rows1.R_cases hr with ⟨_, e0⟩ | ⟨g, cap, e0⟩
    · rw [e0] at hl
      simp at hl
      omega
    injection e0 with eA eN eC
    subst eA
    subst eC
    obtain ⟨hc, hfz⟩ := Kd.R_celln (d := false) hr i hi0 hi
    have hgb := Kd.R_base hr g rfl
    generalize rdOf false l i = bv at hc
    clear hr hl eN
    have a1 : wr.drew.cell? ⟨gx, 1, none⟩ = some (.slice (some ⟨g, 0, none⟩) U1.length y1) := a1
    have hc : wr.drew.cell? ⟨g, i.toNat, none⟩ = some (.bool bv) := hc
    have hfz : wr.drew.frozen? ⟨g, i.toNat, none⟩ = false := hfz
    go_wp2_with fail
    go_region
    all_goals
     have HXs2 := Aside0.mk ((HXs.out.setUp i (!bv)).below (below_drew (Below.refl _ _)))
     have HB2 := Aside0.mk (below_drew (below_set HB.out hgb (j := i.toNat) (v := .bool (!bv))))
     clear hc hfz a0 a1 a2 HXs HB hgb
     generalize (wr.setCell ⟨g, i.toNat, none⟩ (.bool (!bv))).drew = wq at HXs2 HB2 ⊢
     have hwr : IntKind.i64.wrap (i + 1) = i + 1 := IntWalk.i64_in _ (by omega)
     go_wp2
     go_roundg (U1.length - (i + 1).toNat)
     case measure => omega
     case rel => exact ⟨i + 1, by omega, by omega, Nat.le_refl _, rfl, HXs2, HB2⟩
  · go_wp2
    clear a0 a1 a2
    go_loopg [20, 21] H1.length (fun gg v20 v21 W => ∃ i : Int, 0 ≤ i ∧ i ≤ H1.length ∧ H1.length - i.toNat ≤ gg ∧ v20 = .int .i64 i ∧ Aside0 (Xs w9.heap.size gx ep1 (.slice Y1 U1.length y1) (.slice Y2 H1.length y2) U1.length hs W) ∧ Aside0 (Below w9.heap.size w9 W))
    case atStart => exact ⟨0, by omega, by omega, by omega, rfl, HXs, HB⟩
    case round =>
     clear HXs HB hi hg hi0 hi1
     obtain ⟨i2, hi0, hi1, hg, rfl, HXs, HB⟩ := hrel
     obtain ⟨a0, a1, a2, _, _, _⟩ := box3 HXs.out.bx
     have hhl : H1.length ≤ 9223372036854775807 := by have := HLH.out; omega
     by_cases hi : i2 < H1.length
     · have hih : i2.toNat < hs.length := by have := hsl.out; omega
       rcases Rows1.R_cases HXs.out.r2 with ⟨_, e0⟩ | ⟨g2, cap, e0⟩
       · rw [e0] at hih
         exact absurd hih (by simp)
       injection e0 with eA eN eC
       subst eA
       subst eC
       rcases hq : hs[i2.toNat] with ⟨A, nn, cc⟩
       have HQ := Aside0.mk hq
       have hn140 := HN.out i2.toNat hih
       rw [hq] at hn140
       have hn140 : nn ≤ 140 := hn140
       clear hq eN
       go_wp2_with fail
       go_loopg [21] nn (fun gg v21 W => ∃ k : Int, 0 ≤ k ∧ k ≤ nn ∧ nn - k.toNat ≤ gg ∧ v21 = .int .i64 k ∧ Aside0 (Xs w9.heap.size gx ep1 (.slice Y1 U1.length y1) (.slice (some ⟨g2, 0, none⟩) H1.length y2) U1.length hs W) ∧ Aside0 (Below w9.heap.size w9 W))
       case atStart => exact ⟨0, by omega, by omega, by omega, rfl, HXs, HB⟩
       case round =>
        clear HXs HB a0 a1 a2
        obtain ⟨k, hk0, hk1, hgk, rfl, HXs, HB⟩ := hrel
        obtain ⟨a0, a1, a2, _, _, _⟩ := box3 HXs.out.bx
        have hcl := Kd.R_celln (d := (none, 0, 0)) HXs.out.r2 i2 hi0 hi
        rw [show rdOf (none, 0, 0) hs i2 = (A, nn, cc) by simp [rdOf, List.getD_eq_getElem?_getD, hih, HQ.out]] at hcl
        have hcg : wr.cell? ⟨g2, i2.toNat, none⟩ = some (.slice A nn cc) := hcl.1
        clear hcl
        by_cases hk : k < nn
        · have hes := HXs.out.es i2.toNat hih
          rw [HQ.out] at hes
          rcases hes with h0 | ⟨ge, h1, h2, h3⟩
          · have h0 : nn = 0 := h0
            omega
          have h1 : A = some ⟨ge, 0, none⟩ := h1
          have h2 : w9.heap.size ≤ ge := h2
          have h3 : Prs wr ge nn := h3
          subst h1
          have hkn : k.toNat < nn := (Int.toNat_lt hk0).2 hk
          obtain ⟨ea, eb, c0, c1', f0, f1⟩ := h3.at k.toNat hkn
          obtain ⟨csx, hgx2, _⟩ := id h3
          have HXs2 := Aside0.mk (HXs.out.setEdge hgx2 (k.toNat * 2 + 1) (wrap64 (eb + 1)))
          have HB2 := Aside0.mk (below_set HB.out h2 (j := k.toNat * 2 + 1) (v := .int .i64 (wrap64 (eb + 1))))
          clear HXs HB h3 hgx2
          go_wp2
          generalize (wr.setCell ⟨ge, k.toNat * 2 + 1, none⟩ (.int .i64 (wrap64 (eb + 1)))) = wq at HXs2 HB2 ⊢
          go_roundg (nn - (k + 1).toNat)
          case measure => omega
          case rel => exact ⟨k + 1, by omega, by omega, Nat.le_refl _, rfl, HXs2, HB2⟩
        · have hwr : IntKind.i64.wrap (i2 + 1) = i2 + 1 := IntWalk.i64_in _ (by omega)
          go_wp2
          go_roundg (H1.length - (i2 + 1).toNat)
          case measure => omega
          case rel => exact ⟨i2 + 1, by omega, by omega, Nat.le_refl _, rfl, HXs, HB⟩
     · go_wp2
       have HXF := Aside0.mk (HX9.out.below HB.out)
       have HCx := Aside0.mk (fun (W : World) (hW : Below wr.heap.size wr W) => HXF.out.below hW)
       have HRO := Aside0.mk (fun (W : World) (hW : Below wr.heap.size wr W) => (And.intro (Kd.C_below (Kd.C_below HO9.out HB.out) hW) (Kd.C_below (Kd.C_below HP9.out.2.2 HB.out) hW)))
       obtain ⟨q0, q1, q2, q3⟩ := box4 HXF.out.bc
       obtain ⟨q4, q5, q6, _, _, _⟩ := box3 HXF.out.bt
       obtain ⟨q7, q8, q9, _, _, _⟩ := box3 HXF.out.bm
       have keepS : ∀ W, Below wr.heap.size wr W → (Below wr.heap.size wr W ∧ W.cell? ⟨w.heap.size, 0, none⟩ = some (.int .i64 nodes) ∧ W.cell? ⟨w.heap.size, 1, none⟩ = some (.slice Af fl.length cf) ∧ W.cell? ⟨w.heap.size, 2, none⟩ = some (.int .i64 wd) ∧ W.cell? ⟨w.heap.size, 3, none⟩ = some (.int .i64 q) ∧ W.cell? ⟨w.heap.size + 1, 0, none⟩ = some (.int .u64 ep1) ∧ W.cell? ⟨w.heap.size + 1, 1, none⟩ = some (.slice V1 U1.length e1) ∧ W.cell? ⟨w.heap.size + 1, 2, none⟩ = some (.slice V2 H1.length e2) ∧ W.cell? ⟨gm, 0, none⟩ = some (.int .u64 ep1) ∧ W.cell? ⟨gm, 1, none⟩ = some (.slice M1 U1.length k1) ∧ W.cell? ⟨gm, 2, none⟩ = some (.slice M2 H1.length k2)) := fun W hW => ⟨hW, pw_cell_below hW q0, pw_cell_below hW q1, pw_cell_below hW q2, pw_cell_below hW q3, pw_cell_below hW q4, pw_cell_below hW q5, pw_cell_below hW q6, pw_cell_below hW q7, pw_cell_below hW q8, pw_cell_below hW q9⟩
       have KS := Aside0.mk keepS
       clear keepS q0 q1 q2 q3 q4 q5 q6 q7 q8 q9 a0 a1 a2
       obtain ⟨mb, hmi⟩ : ∃ mb : Bool, (mb = true ↔ MayP nodes fl wd q ep1 U1 H1) := by
        classical
        exact ⟨decide (MayP nodes fl wd q ep1 U1 H1), decide_eq_true_iff⟩
       obtain ⟨kr, hreach⟩ := preach_eq ep1 U1 H1 flow node (by have := HLE.out flow; omega)
       have F1 : Aside0 (∀ W, Below wr.heap.size wr W → BoolCall 19 #[.slice Ao r.length co, .slice Ap r.length cp] true W) := ⟨fun W hW => same_call r Ao Ap co cp W ⟨HOc.out, (HRO.out W hW).1⟩ ⟨HP9.out.2.1, (HRO.out W hW).2⟩⟩
       have F2 : Aside0 (∀ W, Below wr.heap.size wr W → BoolCall 20 #[.agg #[.int .i64 nodes, .slice Af fl.length cf, .int .i64 wd, .int .i64 q]] (configOk nodes fl wd q) W) := ⟨fun W hW => topo_config nodes Af cf fl wd q W (HCx.out W hW).fs⟩
       have F3 : Aside0 (∀ W, Below wr.heap.size wr W → BoolCall 21 #[.agg #[.int .i64 nodes, .slice Af fl.length cf, .int .i64 wd, .int .i64 q]] (configOk nodes fl wd q) W) := ⟨fun W hW => braidworkref19_Config.calls 100 nodes Af cf fl wd q _ W (HCx.out W hW).fs HFC.out (pconfig_eq 100 (by omega) nodes fl wd q)⟩
       have F4 : Aside0 (∀ W, Below wr.heap.size wr W → BoolCall 22 #[.agg #[.int .i64 nodes, .slice Af fl.length cf, .int .i64 wd, .int .i64 q], .agg #[.int .u64 ep1, .slice M1 U1.length k1, .slice M2 H1.length k2]] mb W) := ⟨fun W hW => by
        refine (topo_may nodes Af cf fl wd q ep1 M1 k1 U1 M2 k2 H1 W (HCx.out W hW).fs (HCx.out W hW).m1 (HCx.out W hW).m2 (fun l hl => by have := HLR.out l hl; omega)).mono ?_
        rintro e w' ⟨⟨b, rfl, hbi⟩, hb⟩
        have : b = mb := by rw [Bool.eq_iff_iff, hbi, hmi]
        subst this
        exact ⟨rfl, hb⟩⟩
       have F5 : Aside0 (∀ W, Below wr.heap.size wr W → BoolCall 23 #[.agg #[.int .i64 nodes, .slice Af fl.length cf, .int .i64 wd, .int .i64 q], .agg #[.int .u64 ep1, .slice V1 U1.length e1, .slice V2 H1.length e2]] mb W) := ⟨fun W hW => by
        refine (ref_may nodes Af cf fl wd q ep1 V1 e1 U1 V2 e2 H1 W HE1.out (HCx.out W hW).fs HFC.out (HCx.out W hW).t1 HC.out.1 (HCx.out W hW).t2 HC.out.2.1).mono ?_
        rintro e w' ⟨⟨b, rfl, hbi⟩, hb⟩
        have : b = mb := by rw [Bool.eq_iff_iff, hbi, hmi]
        subst this
        exact ⟨rfl, hb⟩⟩
       have F6 : Aside0 (∀ W, Below wr.heap.size wr W → RowCall 24 #[.agg #[.int .u64 ep1, .slice M1 U1.length k1, .slice M2 H1.length k2], .int .i64 flow, .int .i64 node] (nextOf (edgesOf H1 flow) node) W) := ⟨fun W hW => row_call (topo_next ep1 M1 k1 U1 M2 k2 H1 flow node W (HCx.out W hW).m2 (by have := HLE.out flow; omega))⟩
       have F7 : Aside0 (∀ W, Below wr.heap.size wr W → RowCall 25 #[.agg #[.int .u64 ep1, .slice V1 U1.length e1, .slice V2 H1.length e2], .int .i64 flow, .int .i64 node] (nextOf (edgesOf H1 flow) node) W) := ⟨fun W hW => row_call (braidworkref19_Next.calls 1000 ep1 V1 e1 U1 V2 e2 H1 flow node _ W (HCx.out W hW).t1 HC.out.1 (HCx.out W hW).t2 HC.out.2.1 (pnext_eq ep1 U1 H1 flow node (by have := HLE.out flow; omega) 1000 (by have := HLE.out flow; omega)))⟩
       have F9 : Aside0 (∀ W, Below wr.heap.size wr W → RowCall 26 #[.agg #[.int .u64 ep1, .slice M1 U1.length k1, .slice M2 H1.length k2], .int .i64 flow, .int .i64 node] (prevOf (edgesOf H1 flow) node) W) := ⟨fun W hW => row_call (topo_prev ep1 M1 k1 U1 M2 k2 H1 flow node W (HCx.out W hW).m2 (by have := HLE.out flow; omega))⟩
       have F10 : Aside0 (∀ W, Below wr.heap.size wr W → RowCall 27 #[.agg #[.int .u64 ep1, .slice V1 U1.length e1, .slice V2 H1.length e2], .int .i64 flow, .int .i64 node] (prevOf (edgesOf H1 flow) node) W) := ⟨fun W hW => row_call (braidworkref19_Prev.calls 1000 ep1 V1 e1 U1 V2 e2 H1 flow node _ W (HCx.out W hW).t1 HC.out.1 (HCx.out W hW).t2 HC.out.2.1 (pprev_eq ep1 U1 H1 flow node (by have := HLE.out flow; omega) 1000 (by have := HLE.out flow; omega)))⟩
       have F11 : Aside0 (∀ W, Below wr.heap.size wr W → RowCall 28 #[.agg #[.int .u64 ep1, .slice M1 U1.length k1, .slice M2 H1.length k2], .int .i64 flow, .int .i64 node] (reachOf (edgesOf H1 flow) node) W) := ⟨fun W hW => row_call (topo_Reach.calls kr ep1 M1 k1 U1 M2 k2 H1 flow node _ W (HCx.out W hW).m1 HC.out.2.2.2.2.1 (HCx.out W hW).m2 HC.out.2.2.2.2.2 hreach)⟩
       have F12 : Aside0 (∀ W, Below wr.heap.size wr W → RowCall 29 #[.agg #[.int .u64 ep1, .slice V1 U1.length e1, .slice V2 H1.length e2], .int .i64 flow, .int .i64 node] (reachOf (edgesOf H1 flow) node) W) := ⟨fun W hW => row_call (ref_reach ep1 V1 e1 U1 V2 e2 H1 flow node W (HCx.out W hW).t1 HC.out.1 (HCx.out W hW).t2 HC.out.2.1 (by have := HLE.out flow; omega))⟩
       have F13 : Aside0 (∀ W, Below wr.heap.size wr W → BoolCall 30 #[.agg #[.int .u64 ep1, .slice M1 U1.length k1, .slice M2 H1.length k2], .int .i64 flow, .int .i64 node, .int .i64 dest] (decide ((⟨node, dest⟩ : S40) ∈ edgesOf H1 flow)) W) := ⟨fun W hW => topo_Edge.calls 1000 ep1 M1 k1 U1 M2 k2 H1 flow node dest _ W (HCx.out W hW).m1 HC.out.2.2.2.2.1 (HCx.out W hW).m2 HC.out.2.2.2.2.2 (topo_Edge_eq ep1 U1 H1 flow node dest (by have := HLH.out; omega) (by have : (edgesOf H1 flow).length ≤ _ := HLE.out flow; show (edgesOf H1 flow).length ≤ _; omega) 1000 (by have : (edgesOf H1 flow).length ≤ _ := HLE.out flow; show (edgesOf H1 flow).length < _; omega))⟩
       have F14 : Aside0 (∀ W, Below wr.heap.size wr W → BoolCall 31 #[.agg #[.int .u64 ep1, .slice V1 U1.length e1, .slice V2 H1.length e2], .int .i64 flow, .int .i64 node, .int .i64 dest] (decide ((⟨node, dest⟩ : S40) ∈ edgesOf H1 flow)) W) := ⟨fun W hW => braidworkref19_Edge.calls 1000 ep1 V1 e1 U1 V2 e2 H1 flow node dest _ W (HCx.out W hW).t1 HC.out.1 (HCx.out W hW).t2 HC.out.2.1 (pedge_eq ep1 U1 H1 flow node dest (by have := HLE.out flow; omega) 1000 (by have := HLE.out flow; omega))⟩
       have F15 : Aside0 (∀ W, Below wr.heap.size wr W → BoolCall 17 #[.agg #[.int .u64 ep1, .slice M1 U1.length k1, .slice M2 H1.length k2], .agg #[.int .u64 ep1, .slice V1 U1.length e1, .slice V2 H1.length e2]] true W) := ⟨fun W hW => braidworkref12_SameTopo.calls 1000 ep1 M1 k1 U1 M2 k2 H1 ep1 V1 e1 U1 V2 e2 H1 true W (HCx.out W hW).m1 HC.out.2.2.2.2.1 (HCx.out W hW).m2 HC.out.2.2.2.2.2 (HCx.out W hW).t1 HC.out.1 (HCx.out W hW).t2 HC.out.2.1 (show braidworkref12_SameTopo.f 1000 ep1 U1 H1 ep1 U1 H1 = some true from (sameTopo_eq 140 ep1 ep1 U1 U1 H1 H1 (by have := HLH.out; omega) (by have := HLU.out; omega) HLR.out (by omega) 1000 (by have := HLU.out; have := HLH.out; have := Nat.mul_le_mul_right 142 HLH.out; omega)).trans (by simp))⟩
       have F16 : Aside0 (∀ W, Below wr.heap.size wr W → BoolCall 32 #[] true W) := ⟨fun W hW => wakes_any W⟩
       generalize configOk nodes fl wd q = cb at F2 F3
       generalize decide ((⟨node, dest⟩ : S40) ∈ edgesOf H1 flow) = eb at F13 F14
       generalize nextOf (edgesOf H1 flow) node = NX at F6 F7
       generalize prevOf (edgesOf H1 flow) node = PV at F9 F10
       generalize reachOf (edgesOf H1 flow) node = RC at F11 F12
       have HBW := Aside0.mk HXF.out.bel
       clear hmi hreach HXs HCx HRO HXF HC HE1 HFC HLE HLH HLR HLR2 HLU HLU2 HLH2 HN HO9 HOc HP9 HX9 HB hsl ho1 ho2
       go_region_held3 (fun W => Below wr.heap.size wr W ∧ W.cell? ⟨w.heap.size, 0, none⟩ = some (.int .i64 nodes) ∧ W.cell? ⟨w.heap.size, 1, none⟩ = some (.slice Af fl.length cf) ∧ W.cell? ⟨w.heap.size, 2, none⟩ = some (.int .i64 wd) ∧ W.cell? ⟨w.heap.size, 3, none⟩ = some (.int .i64 q) ∧ W.cell? ⟨w.heap.size + 1, 0, none⟩ = some (.int .u64 ep1) ∧ W.cell? ⟨w.heap.size + 1, 1, none⟩ = some (.slice V1 U1.length e1) ∧ W.cell? ⟨w.heap.size + 1, 2, none⟩ = some (.slice V2 H1.length e2) ∧ W.cell? ⟨gm, 0, none⟩ = some (.int .u64 ep1) ∧ W.cell? ⟨gm, 1, none⟩ = some (.slice M1 U1.length k1) ∧ W.cell? ⟨gm, 2, none⟩ = some (.slice M2 H1.length k2))
        (first
         | exact KS.out _ (below_drew (Below.refl _ _))
         | exact KS.out _ hz
         | assumption)
        (first
         | (go_at_call 20; refine (F2.out _ (‹Below wr.heap.size wr _ ∧ _›).1).mono ?_; rintro e wz ⟨rfl, hb⟩; have hz := below_then (‹Below wr.heap.size wr _ ∧ _›).1 (‹Below wr.heap.size wr _ ∧ _›).1.size hb; clear hb)
         | (go_at_call 21; refine (F3.out _ (‹Below wr.heap.size wr _ ∧ _›).1).mono ?_; rintro e wz ⟨rfl, hb⟩; have hz := below_then (‹Below wr.heap.size wr _ ∧ _›).1 (‹Below wr.heap.size wr _ ∧ _›).1.size hb; clear hb)
         | (go_at_call 22; refine (F4.out _ (‹Below wr.heap.size wr _ ∧ _›).1).mono ?_; rintro e wz ⟨rfl, hb⟩; have hz := below_then (‹Below wr.heap.size wr _ ∧ _›).1 (‹Below wr.heap.size wr _ ∧ _›).1.size hb; clear hb)
         | (go_at_call 23; refine (F5.out _ (‹Below wr.heap.size wr _ ∧ _›).1).mono ?_; rintro e wz ⟨rfl, hb⟩; have hz := below_then (‹Below wr.heap.size wr _ ∧ _›).1 (‹Below wr.heap.size wr _ ∧ _›).1.size hb; clear hb)
         | (go_at_call 30; refine (F13.out _ (‹Below wr.heap.size wr _ ∧ _›).1).mono ?_; rintro e wz ⟨rfl, hb⟩; have hz := below_then (‹Below wr.heap.size wr _ ∧ _›).1 (‹Below wr.heap.size wr _ ∧ _›).1.size hb; clear hb)
         | (go_at_call 31; refine (F14.out _ (‹Below wr.heap.size wr _ ∧ _›).1).mono ?_; rintro e wz ⟨rfl, hb⟩; have hz := below_then (‹Below wr.heap.size wr _ ∧ _›).1 (‹Below wr.heap.size wr _ ∧ _›).1.size hb; clear hb)
         | (go_at_call 17; refine (F15.out _ (‹Below wr.heap.size wr _ ∧ _›).1).mono ?_; rintro e wz ⟨rfl, hb⟩; have hz := below_then (‹Below wr.heap.size wr _ ∧ _›).1 (‹Below wr.heap.size wr _ ∧ _›).1.size hb; clear hb)
         | (go_at_call 32; refine (F16.out _ (‹Below wr.heap.size wr _ ∧ _›).1).mono ?_; rintro e wz ⟨rfl, hb⟩; have hz := below_then (‹Below wr.heap.size wr _ ∧ _›).1 (‹Below wr.heap.size wr _ ∧ _›).1.size hb; clear hb)
         | (go_at_call_of 19 (Value.slice Ao r.length co); refine (F1.out _ (‹Below wr.heap.size wr _ ∧ _›).1).mono ?_; rintro e wz ⟨rfl, hb⟩; have hz := below_then (‹Below wr.heap.size wr _ ∧ _›).1 (‹Below wr.heap.size wr _ ∧ _›).1.size hb; clear hb)
         | (go_at_call 24; refine (F6.out _ (‹Below wr.heap.size wr _ ∧ _›).1).mono ?_; rintro e wz ⟨ANX, cNX, rfl, hNX, hb⟩; have hz := below_then (‹Below wr.heap.size wr _ ∧ _›).1 (‹Below wr.heap.size wr _ ∧ _›).1.size hb; clear hb)
         | (go_at_call 25; refine (F7.out _ (‹Below wr.heap.size wr _ ∧ _›).1).mono ?_; rintro e wz ⟨BNX, dNX, rfl, gNX, hb⟩; have hNX := Aside0.mk (And.intro hNX.out.1 (Kd.C_below hNX.out.2 hb)); have hz := below_then (‹Below wr.heap.size wr _ ∧ _›).1 (‹Below wr.heap.size wr _ ∧ _›).1.size hb; clear hb)
         | (go_at_call_of 19 (Value.slice ANX NX.length cNX); refine (same_call NX ANX BNX cNX dNX _ hNX.out gNX.out).mono ?_; rintro e wz ⟨rfl, hb⟩; have hz := below_then (‹Below wr.heap.size wr _ ∧ _›).1 (‹Below wr.heap.size wr _ ∧ _›).1.size hb; clear hb)
         | (go_at_call 26; refine (F9.out _ (‹Below wr.heap.size wr _ ∧ _›).1).mono ?_; rintro e wz ⟨APV, cPV, rfl, hPV, hb⟩; have hz := below_then (‹Below wr.heap.size wr _ ∧ _›).1 (‹Below wr.heap.size wr _ ∧ _›).1.size hb; clear hb)
         | (go_at_call 27; refine (F10.out _ (‹Below wr.heap.size wr _ ∧ _›).1).mono ?_; rintro e wz ⟨BPV, dPV, rfl, gPV, hb⟩; have hPV := Aside0.mk (And.intro hPV.out.1 (Kd.C_below hPV.out.2 hb)); have hz := below_then (‹Below wr.heap.size wr _ ∧ _›).1 (‹Below wr.heap.size wr _ ∧ _›).1.size hb; clear hb)
         | (go_at_call_of 19 (Value.slice APV PV.length cPV); refine (same_call PV APV BPV cPV dPV _ hPV.out gPV.out).mono ?_; rintro e wz ⟨rfl, hb⟩; have hz := below_then (‹Below wr.heap.size wr _ ∧ _›).1 (‹Below wr.heap.size wr _ ∧ _›).1.size hb; clear hb)
         | (go_at_call 28; refine (F11.out _ (‹Below wr.heap.size wr _ ∧ _›).1).mono ?_; rintro e wz ⟨ARC, cRC, rfl, hRC, hb⟩; have hz := below_then (‹Below wr.heap.size wr _ ∧ _›).1 (‹Below wr.heap.size wr _ ∧ _›).1.size hb; clear hb)
         | (go_at_call 29; refine (F12.out _ (‹Below wr.heap.size wr _ ∧ _›).1).mono ?_; rintro e wz ⟨BRC, dRC, rfl, gRC, hb⟩; have hRC := Aside0.mk (And.intro hRC.out.1 (Kd.C_below hRC.out.2 hb)); have hz := below_then (‹Below wr.heap.size wr _ ∧ _›).1 (‹Below wr.heap.size wr _ ∧ _›).1.size hb; clear hb)
         | (go_at_call_of 19 (Value.slice ARC RC.length cRC); refine (same_call RC ARC BRC cRC dRC _ hRC.out gRC.out).mono ?_; rintro e wz ⟨rfl, hb⟩; have hz := below_then (‹Below wr.heap.size wr _ ∧ _›).1 (‹Below wr.heap.size wr _ ∧ _›).1.size hb; clear hb))
       have hz := (‹Below wr.heap.size wr _ ∧ _›).1
       have HZ := Aside0.mk (below_then HBW.out HBW.out.size hz)
       clear hz KS
       go_wp2
       go_ret
       exact ⟨rfl, HZ.out⟩
end Go.Proofs.Ytkkfpmgmicfkfaa.X
set_option linter.unusedVariables false
/- What came in, opened: of a datum that was trod, the words of the print (Kd). -/
namespace Go.Proofs.Ytkkfpmgmicfkfaa.Opens
open Go.RowKit Go.Proofs.YtkkfpmgmicfkfaaW.PrintWords Go.Proofs.YtkkfpmgmicfkfaaW.PrintLast Go.Proofs.YtkkfpmgmicfkfaaW.PrintMore
/-- Cells of type t that were read as data are of the kind d; of what they say, ok. -/
def Opn {α : Type} (P : Program) (t : TypeId) (d : Kd α) (ok : α → Prop) : Prop :=
 ∀ {H : Type} (enc : TypeId × Value → H) (W : World) (n : Nat) (cs : List Value) (dt : DataW H) (ps : List MemPlace), DataW.trod enc P W 0 (fun _ => true) true n t cs = some (dt, ps) → (DataW.weights P t dt).all (· ≤ reachBytes) = true → ∃ x, d.K W x cs ∧ ok x
def OpnF {α : Type} (P : Program) (fs : List Field) (o : Nat) (d : Kd α) (ok : α → Prop) : Prop :=
 ∀ {H : Type} (enc : TypeId × Value → H) (W : World) (n : Nat) (cs : List Value) (xs : List (DataW H × List MemPlace)), xs.length = fs.length → (∀ (i : Nat) (f : Field), fs[i]? = some f → DataW.trod enc P W 0 (fun _ => true) true n f.type ((cs.drop f.offset).take (P.cellsOf f.type)) = xs[i]?) →
  (DataW.weightsEach P (fs.map (·.type)) (xs.map (·.1))).all (· ≤ reachBytes) = true → cs.length = o + d.sz → ∃ x, d.K W x (cs.drop o) ∧ ok x
variable {α β : Type} {P : Program} {t e : TypeId}
theorem opn_int {k : IntKind} (ht : P.underlying t = some (.int k)) : Opn P t (Kd.int k) (fun n => (Lit.int k n).wf = true) := by
 intro H enc W n cs dt ps h hw
 obtain ⟨m, rfl, _, hwf⟩ := DataW.trod_int ht h
 exact ⟨m, rfl, hwf⟩
theorem opn_bool (ht : P.underlying t = some .bool) : Opn P t Kd.bool (fun _ => True) := by
 intro H enc W n cs dt ps h hw
 obtain ⟨m, rfl, _⟩ := DataW.trod_bool ht h
 exact ⟨m, rfl, trivial⟩
theorem weightsAll_mem {H : Type} {D : DataW H} : ∀ {l : List (DataW H)}, D ∈ l → (DataW.weightsAll P e l).all (· ≤ reachBytes) = true → (DataW.weights P e D).all (· ≤ reachBytes) = true := by
 intro l
 induction l with
 | nil => intro h; cases h
 | cons y ys ih =>
  intro h hw
  unfold DataW.weightsAll at hw
  rw [List.all_append, Bool.and_eq_true] at hw
  rcases List.mem_cons.1 h with rfl | h
  · exact hw.1
  · exact ih h hw.2
theorem opn_slice {d : Kd α} {ok : α → Prop} (q : Nat) (ht : P.underlying t = some (.slice e)) (hsz : P.cellsOf e = d.sz) (he : Opn P e d ok) : Opn P t (Kd.slice q d) (fun xs => (∀ x ∈ xs, ok x) ∧ xs.length * P.bytesOf e ≤ reachBytes) := by
 intro H enc W n cs dt ps h hw
 rcases Go.Deep.open_slice ht h with ⟨rfl, hx⟩ | ⟨a, len, cap, m, n', D, Pl, rfl, _, hl, hm, hmm, hx, hel⟩
 · exact ⟨[], ⟨none, 0, rfl, Nat.le_refl _, rfl, by simp, fun h => absurd h (Nat.lt_irrefl 0)⟩, by simp, by simp⟩
 · injection hx with hx1 hx2
   subst hx1
   have hmc : m = cap := by simpa using hmm
   subst hmc
   unfold DataW.weights at hw
   rw [ht] at hw
   simp only [List.all_cons, List.all_append, Bool.and_eq_true] at hw
   obtain ⟨hw0, hw1, _⟩ := hw
   have hex : ∀ i, i < len → ∃ x, (∃ cs', d.K W x cs' ∧ ∀ j u, cs'[j]? = some u → W.cell? (a.add (i * d.sz + j)) = some u) ∧ ok x := by
    intro i hi
    obtain ⟨cs', hc, ht'⟩ := hel i (by omega)
    have hD : D i ∈ (List.range len).map D := List.mem_map.2 ⟨i, List.mem_range.2 hi, rfl⟩
    obtain ⟨x, hK, hok⟩ := he enc W n' cs' (D i) (Pl i) ht' (weightsAll_mem hD hw1)
    refine ⟨x, ⟨cs', hK, fun j u hu => ?_⟩, hok⟩
    obtain ⟨_, hcl, hcc⟩ := World.cells?_some hc
    have hj : j < P.cellsOf e := by rw [← hcl]; exact (List.getElem?_eq_some_iff.1 hu).1
    have := hcc j hj
    rw [Addr.add_add, hsz] at this
    rw [this, hu]
   obtain ⟨xs, hxl, hxs⟩ := Rows1.exists_list hex
   subst hxl
   refine ⟨xs, ⟨some a, _, rfl, hl, rfl, by unfold maxLen at hm; omega, fun _ => ⟨a, rfl, fun j p hj => ?_⟩⟩, ?_, ?_⟩
   · obtain ⟨hjl, rfl⟩ := List.getElem?_eq_some_iff.1 hj
     obtain ⟨⟨cs', hK, hc⟩, _⟩ := hxs j hjl
     exact ⟨cs', d.K_len hK, hK, fun i u hu => hc i u hu⟩
   · intro x hx
     obtain ⟨j, hj, rfl⟩ := List.getElem_of_mem hx
     exact (hxs j hj).2
   · have h0 := of_decide_eq_true hw0
     simp only [List.length_map, List.length_range] at h0
     exact Nat.le_trans (Nat.mul_le_mul_right _ (by omega)) h0
theorem opnF_one {f : Field} {o : Nat} {a : Kd α} {ok : α → Prop} (ho : f.offset = o) (hs : P.cellsOf f.type = a.sz) (h : Opn P f.type a ok) : OpnF P [f] o a ok := by
 intro H enc W n cs xs hl hf hw hc
 obtain ⟨y, rfl⟩ : ∃ y, xs = [y] := by
  match xs, hl with
  | [y], _ => exact ⟨y, rfl⟩
 have h0 := hf 0 f rfl
 have hcut : (cs.drop f.offset).take (P.cellsOf f.type) = cs.drop o := by
  rw [ho, hs]
  exact List.take_of_length_le (by rw [List.length_drop]; omega)
 rw [hcut] at h0
 exact h enc W n _ y.1 y.2 h0 (by simpa [DataW.weightsEach] using hw)
theorem opnF_cons {f : Field} {r : List Field} {o : Nat} {a : Kd α} {b : Kd β} {oka : α → Prop} {okb : β → Prop} (ho : f.offset = o) (hs : P.cellsOf f.type = a.sz) (h : Opn P f.type a oka) (hr : OpnF P r (o + a.sz) b okb) :
 OpnF P (f :: r) o (Kd.pair a b) (fun x => oka x.1 ∧ okb x.2) := by
 intro H enc W n cs xs hl hf hw hc
 obtain ⟨y, ys, rfl⟩ : ∃ y ys, xs = y :: ys := by
  match xs, hl with
  | y :: ys, _ => exact ⟨y, ys, rfl⟩
 have hw' : (DataW.weights P f.type y.1 ++ DataW.weightsEach P (r.map (·.type)) (ys.map (·.1))).all (· ≤ reachBytes) = true := hw
 rw [List.all_append, Bool.and_eq_true] at hw'
 have h0 := hf 0 f rfl
 rw [ho, hs] at h0
 have hc : cs.length = o + (a.sz + b.sz) := hc
 obtain ⟨x, hx, hox⟩ := h enc W n _ y.1 y.2 h0 hw'.1
 obtain ⟨z, hz, hoz⟩ := hr enc W n cs ys (by simpa using hl) (fun i g hg => by simpa using hf (i + 1) g (by simpa using hg)) hw'.2 (by omega)
 refine ⟨(x, z), ⟨_, _, ?_, hx, hz⟩, hox, hoz⟩
 rw [← List.drop_drop]
 exact (List.take_append_drop _ _).symm
theorem opn_struct {fs : Array Field} {d : Kd β} {ok : β → Prop} (ht : P.underlying t = some (.struct fs)) (hsz : P.cellsOf t = d.sz) (h : OpnF P fs.toList 0 d ok) (g : α → β) (mk : β → α) (hg : ∀ x, g (mk x) = x) : Opn P t (Kd.iso d g) (fun y => ok (g y)) := by
 intro H enc W n cs dt ps htr hw
 obtain ⟨xs, n', _, hx, hl, hlen, hf⟩ := DataW.trod_struct ht htr
 injection hx with hx1 hx2
 subst hx1
 unfold DataW.weights at hw
 rw [ht] at hw
 obtain ⟨x, hK, hok⟩ := h enc W n' cs xs (by simpa using hlen) (fun i f hif => hf i f (by simpa using hif)) hw (by rw [Nat.zero_add, ← hsz]; exact hl)
 rw [List.drop_zero] at hK
 exact ⟨mk x, by show d.K W (g (mk x)) cs; rw [hg]; exact hK, by show ok (g (mk x)); rw [hg]; exact hok⟩
/-- An argument of struct type. -/
theorem Opn.arg {H : Type} {enc : TypeId × Value → H} {W : World} {d : Kd α} {ok : α → Prop} {fs : Array Field} {v : Value} {dt : DataW H} {ps : List MemPlace} {base : Nat} (h : Opn P t d ok) (ht : P.underlying t = some (.struct fs)) (hv : Value.okWide P W .any base t v) (htr : DataW.Trod enc P W 0 (fun _ => true) true t v dt ps) (hw : (DataW.weights P t dt).all (· ≤ reachBytes) = true) : ∃ x cs, v = .agg cs ∧ d.K W x cs.toList ∧ ok x := by
 obtain ⟨cs, rfl, _⟩ := WideShapes.okWide_struct ht hv
 obtain ⟨n, hn⟩ := htr
 obtain ⟨x, hK, hok⟩ := h enc W n _ dt ps hn hw
 exact ⟨x, cs, rfl, hK, hok⟩
theorem weightsEach_cons {H : Type} {ts : List TypeId} {ds : List (DataW H)} {D : DataW H} (h : (DataW.weightsEach P (t :: ts) (D :: ds)).all (· ≤ reachBytes) = true) : (DataW.weights P t D).all (· ≤ reachBytes) = true ∧ (DataW.weightsEach P ts ds).all (· ≤ reachBytes) = true := by
 have h : (DataW.weights P t D ++ DataW.weightsEach P ts ds).all (· ≤ reachBytes) = true := h
 rwa [List.all_append, Bool.and_eq_true] at h
end Go.Proofs.Ytkkfpmgmicfkfaa.Opens
set_option linter.unusedVariables false

namespace Go.Proofs.Ytkkfpmgmicfkfaa.topoCalls
open Go.ChangeShapes Go.WideShapes Go.ChangeAt Go.RowKit Go.Proofs.YtkkfpmgmicfkfaaW.PrintWords Go.Proofs.YtkkfpmgmicfkfaaW.PrintLast Go.Proofs.YtkkfpmgmicfkfaaW.PrintMore Go.Proofs.Ytkkfpmgmicfkfaa.X Go.Proofs.Ytkkfpmgmicfkfaa.Opens
theorem own : ownKnob Try.prog.godebug = none := by kernel_rfl
theorem laidOut : laidOutB Try.prog = true := by kernel_rfl
def kConf : Kd (Int × List S124 × Int × Int) := Kd.pair (Kd.int .i64) (Kd.pair (Kd.slice 124 k124) (Kd.pair (Kd.int .i64) (Kd.int .i64)))
theorem opnFlow : ∃ ok, Opn Try.prog 124 k124 ok := ⟨_, opn_struct Try.underlying124 (by kernel_rfl) (opnF_cons rfl (by kernel_rfl) (opn_int Try.underlying3) (opnF_cons rfl (by kernel_rfl) (opn_int Try.underlying3) (opnF_cons rfl (by kernel_rfl) (opn_int Try.underlying3) (opnF_one rfl (by kernel_rfl) (opn_slice 3 Try.underlying31 (by kernel_rfl) (opn_int Try.underlying3)))))) _ (fun y => ⟨y.1, y.2.1, y.2.2.1, y.2.2.2⟩) (fun _ => rfl)⟩
theorem opnEdge : ∃ ok, Opn Try.prog 40 k40 ok := ⟨_, opn_struct Try.underlying40 (by kernel_rfl) (opnF_cons rfl (by kernel_rfl) (opn_int Try.underlying3) (opnF_one rfl (by kernel_rfl) (opn_int Try.underlying3))) _ (fun y => ⟨y.1, y.2⟩) (fun _ => rfl)⟩
theorem opnConf : ∃ ok, Opn Try.prog 24 (Kd.iso kConf id) ok := by
 obtain ⟨_, h⟩ := opnFlow
 exact ⟨_, opn_struct Try.underlying24 (by kernel_rfl) (opnF_cons rfl (by kernel_rfl) (opn_int Try.underlying3) (opnF_cons rfl (by kernel_rfl) (opn_slice 124 Try.underlying22 (by kernel_rfl) h) (opnF_cons rfl (by kernel_rfl) (opn_int Try.underlying3) (opnF_one rfl (by kernel_rfl) (opn_int Try.underlying3))))) id id (fun _ => rfl)⟩
theorem opnTopo : ∃ ok : S29 → Prop, Opn Try.prog 29 k29 (fun x => 0 ≤ x.f0 ∧ ok x) := by
 obtain ⟨_, h⟩ := opnEdge
 obtain ⟨ok2, h2, h2f⟩ : ∃ ok : S29 → Prop, Opn Try.prog 29 k29 ok ∧ ∀ x, ok x → (Lit.int .u64 x.f0).wf = true := ⟨_, opn_struct Try.underlying29 (by kernel_rfl) (opnF_cons rfl (by kernel_rfl) (opn_int Try.underlying25) (opnF_cons rfl (by kernel_rfl) (opn_slice 4 Try.underlying26 (by kernel_rfl) (opn_bool Try.underlying4)) (opnF_one rfl (by kernel_rfl) (opn_slice 38 Try.underlying27 (by kernel_rfl) (opn_slice 40 Try.underlying38 (by kernel_rfl) h))))) (fun x : S29 => (x.f0, x.f1, x.f2)) (fun y => ⟨y.1, y.2.1, y.2.2⟩) (fun _ => rfl), fun x h => h.1⟩
 refine ⟨fun _ => True, fun enc W n cs dt ps hh hw => ?_⟩
 obtain ⟨x, hK, hok⟩ := h2 enc W n cs dt ps hh hw
 refine ⟨x, hK, ?_, trivial⟩
 have h3 := h2f x hok
 unfold Lit.wf at h3
 rw [Bool.and_eq_true] at h3
 have h4 : IntKind.u64.min ≤ x.f0 := of_decide_eq_true h3.1
 exact h4
theorem conf_open {W : World} {x : Int × List S124 × Int × Int} {cs : Array Value} (h : (Kd.iso kConf id).K W x cs.toList) : ∃ A c, cs = #[.int .i64 x.1, .slice A x.2.1.length c, .int .i64 x.2.2.1, .int .i64 x.2.2.2] ∧ x.2.1.length ≤ c ∧ Kd.C k124 W A x.2.1.length x.2.1 := by
 obtain ⟨c0, c1, e, h0, c2, c3, e2, ⟨A, c, e3, hl, hC⟩, c4, c5, e4, h4, h5⟩ := h
 have h0 : c0 = [.int .i64 x.1] := h0
 have h4 : c4 = [.int .i64 x.2.2.1] := h4
 have h5 : c5 = [.int .i64 x.2.2.2] := h5
 have e3 : c2 = [.slice A x.2.1.length c] := e3
 subst h0 h4 h5 e3 e4 e2
 exact ⟨A, c, by have := congrArg List.toArray e; simpa using this, hl, hC⟩
theorem topo_open {W : World} {x : S29} {cs : Array Value} (h : k29.K W x cs.toList) : ∃ A1 c1 A2 c2, cs = #[.int .u64 x.f0, .slice A1 x.f1.length c1, .slice A2 x.f2.length c2] ∧ x.f1.length ≤ c1 ∧ Kd.bool.C W A1 x.f1.length x.f1 ∧ x.f2.length ≤ c2 ∧ (Kd.slice 40 k40).C W A2 x.f2.length x.f2 := by
 obtain ⟨A1, c1, A2, c2, e, h1, h2, h3, h4⟩ := k29_open h
 exact ⟨A1, c1, A2, c2, by have := congrArg List.toArray e; simpa using this, h1, h2, h3, h4⟩
set_option maxRecDepth 100000 in
theorem lifted (os : Os) (started : os.Started) (H : Type) (enc : TypeId × Value → H) :
 ReturnsInHanded {} Try.checked os 3 .any (Rows.topoCallsSpec.pre6 enc Try.prog Try.f3 Rows.topoCallsRow.domain false) (Rows.topoCallsSpec.post enc Try.prog Try.f3 false true false false) := by
 obtain ⟨okc, hOC⟩ := opnConf
 obtain ⟨okt, hOT⟩ := opnTopo
 refine returnsInHanded_of_change_sized (C := Try.checked) own started (by kernel_rfl) Try.func3
  (ChangeSpec.witness6 (enc := enc) (C := Try.checked) false ⟨#[], #[.agg #[.int .i64 0, .slice none 0 0, .int .i64 0, .int .i64 0], .agg #[.int .u64 0, .slice none 0 0, .slice none 0 0], .agg #[.int .u64 0, .slice none 0 0, .slice none 0 0], .int .i64 0, .int .i64 0, .int .i64 0], []⟩ 8 (by kernel_rfl) (by kernel_rfl) (by kernel_rfl) (by kernel_rfl)) ?_
 intro W base args ds gs before hval0 hW hcnd hsz0 _
 have hsz : (DataW.weightsEach Try.prog (Try.f3.params.toList ++ Rows.topoCallsSpec.plain.varTypes Try.prog) (ds ++ gs)).all (· ≤ reachBytes) = true := hsz0
 have hval : ∀ (j : Nat) t v, Try.f3.params[j]? = some t → args[j]? = some v → Value.okWide Try.prog W .any base t v := hval0
 have hW' := hW
 obtain ⟨p, q, hA0, hV, rfl, hfz, hnd⟩ := hW
 have hA : DataW.TrodAll enc Try.prog W 0 (fun _ => true) true Try.f3.params.toList args.toList ds p := hA0
 rw [Try.params3] at hA hval hsz
 obtain ⟨v0, vs0, d0, ds0, p0, q0, hargs, rfl, rfl, h0, r0⟩ := trodAll_cons hA
 obtain ⟨v1, vs1, d1, ds1, p1, q1, rfl, rfl, rfl, h1, r1⟩ := trodAll_cons r0
 obtain ⟨v2, vs2, d2, ds2, p2, q2, rfl, rfl, rfl, h2, r2⟩ := trodAll_cons r1
 obtain ⟨v3, vs3, d3, ds3, p3, q3, rfl, rfl, rfl, h3, r3⟩ := trodAll_cons r2
 obtain ⟨v4, vs4, d4, ds4, p4, q4, rfl, rfl, rfl, h4, r4⟩ := trodAll_cons r3
 obtain ⟨v5, vs5, d5, ds5, p5, q5, rfl, rfl, rfl, h5, r5⟩ := trodAll_cons r4
 obtain ⟨rfl, rfl, rfl⟩ := trodAll_nil r5
 obtain rfl : args = #[v0, v1, v2, v3, v4, v5] := by cases args; simp_all
 obtain ⟨rfl, rfl⟩ := trodVars_none hV
 obtain ⟨w0, hs1⟩ := weightsEach_cons hsz
 obtain ⟨w1, hs2⟩ := weightsEach_cons hs1
 obtain ⟨w2, hs3⟩ := weightsEach_cons hs2
 have lt0 : ∀ x ∈ p0, x.block < W.heap.size := by obtain ⟨m, hm⟩ := h0; exact DataW.trod_lt m _ _ _ hm
 have lt1 : ∀ x ∈ p1, x.block < W.heap.size := by obtain ⟨m, hm⟩ := h1; exact DataW.trod_lt m _ _ _ hm
 have lt2 : ∀ x ∈ p2, x.block < W.heap.size := by obtain ⟨m, hm⟩ := h2; exact DataW.trod_lt m _ _ _ hm
 obtain ⟨x0, cs0, rfl, hK0, hok0⟩ := hOC.arg Try.underlying24 (hval 0 24 v0 rfl rfl) h0 w0
 obtain ⟨x1, cs1, rfl, hK1, hok1⟩ := hOT.arg Try.underlying29 (hval 1 29 v1 rfl rfl) h1 w1
 obtain ⟨x2, cs2, rfl, hK2, hok2⟩ := hOT.arg Try.underlying29 (hval 2 29 v2 rfl rfl) h2 w2
 obtain ⟨a3, rfl, rfl, rfl, wf3⟩ := open_int Try.underlying3 (hval 3 3 v3 rfl rfl) h3
 obtain ⟨a4, rfl, rfl, rfl, wf4⟩ := open_int Try.underlying3 (hval 4 3 v4 rfl rfl) h4
 obtain ⟨a5, rfl, rfl, rfl, wf5⟩ := open_int Try.underlying3 (hval 5 3 v5 rfl rfl) h5
 obtain ⟨Af, cf, rfl, hfc, hf⟩ := conf_open hK0
 obtain ⟨A1, c1, A2, c2, rfl, hu1c, hu1, hh1c, hh1⟩ := topo_open hK1
 obtain ⟨B1, e1, B2, e2, rfl, hu2c, hu2, hh2c, hh2⟩ := topo_open hK2
 clear hA0 hval0 hsz0 hsz
 refine (topoCalls_any x0.1 Af cf x0.2.1 x0.2.2.1 x0.2.2.2 x1.f0 A1 c1 x1.f1 A2 c2 x1.f2 x2.f0 B1 e1 x2.f1 B2 e2 x2.f2 a3 a4 a5 W hok1.1 hf hfc hu1 hu1c hh1 hh1c hu2 hu2c hh2 hh2c).mono fun e W' ⟨he, bel⟩ => ?_
 subst he
 exact ⟨_, rfl, _, _, _, [], _, [], hW', trodAll_mk1 (shut_bool Try.underlying4 _), (trodAll_cons_mk (Below.trod laidOut (by kernel_rfl) (of_decide_eq_true (by kernel_rfl)) h0 bel lt0) (trodAll_cons_mk (Below.trod laidOut (by kernel_rfl) (of_decide_eq_true (by kernel_rfl)) h1 bel lt1) (trodAll_cons_mk (Below.trod laidOut (by kernel_rfl) (of_decide_eq_true (by kernel_rfl)) h2 bel lt2) (trodAll_cons_mk (shut_int Try.underlying3 wf3) (trodAll_cons_mk (shut_int Try.underlying3 wf4) (trodAll_cons_mk (shut_int Try.underlying3 wf5) trodAll_mk0)))))), rfl, bel.frame _, fun h => by cases h⟩
theorem over : Rows.topoCallsRow.holds Try.pinned (OpenSpec.ofChange Rows.topoCallsSpec) :=
 OpenClaim.holds_of_wide 3 Try.f3 rfl rfl rfl rfl rfl rfl rfl ⟨rfl, rfl, rfl, rfl, rfl⟩ rfl rfl rfl rfl rfl (by kernel_rfl) Try.func3 (by kernel_rfl)
  (of_decide_eq_true (by kernel_rfl)) (by unfold Func.isWrapper; first | (rw [if_pos (by decide +kernel)]; kernel_rfl) | (rw [if_neg (by decide +kernel)]; exact ⟨rfl, rfl⟩))
  (fun os started H enc _ => lifted os started H enc)
theorem proved : Rows.TopoCallsSaid := over
#print axioms proved
end Go.Proofs.Ytkkfpmgmicfkfaa.topoCalls
namespace Go.Proofs.Ytkkfpmgmicfkfaa
/-- The row, under a short name, for the claim. -/
theorem topoCalls_holds : Rows.TopoCallsSaid := topoCalls.proved
end Go.Proofs.Ytkkfpmgmicfkfaa
