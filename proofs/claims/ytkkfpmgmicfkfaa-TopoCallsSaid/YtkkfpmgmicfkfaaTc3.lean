/- Joined by wip/tools/pack.py out of texts of this session's own. -/
import Derived.Test.YtkkfpmgmicfkfaaWWords
import Derived.Test.YtkkfpmgmicfkfaaWLast
import Derived.Test.YtkkfpmgmicfkfaaWQPut
import Derived.Test.YtkkfpmgmicfkfaaWApart
import Derived.Test.YtkkfpmgmicfkfaaWArr
import Derived.Test.YtkkfpmgmicfkfaaWZeros
import Derived.Test.YtkkfpmgmicfkfaaWFoot
import Derived.Test.YtkkfpmgmicfkfaaWKept
import Derived.Test.YtkkfpmgmicfkfaaWShare
import Derived.Test.YtkkfpmgmicfkfaaWN
import Derived.Test.YtkkfpmgmicfkfaaWNEv
import Derived.Test.YtkkfpmgmicfkfaaWMore
import Derived.Test.YtkkfpmgmicfkfaaWTab
import Derived.Test.YtkkfpmgmicfkfaaWRepsOne
import Derived.Test.YtkkfpmgmicfkfaaWInv
import Derived.Test.YtkkfpmgmicfkfaaTc1
import Derived.Test.YtkkfpmgmicfkfaaTc2
import Derived.Below
import Derived.Deep.Draws
import Derived.Deep.AppendLies
import Derived.Maps.AppendAt
import Derived.OwnWalk
import Derived.Laws.BytesArg
import Derived.Laws.MakeOwn
import Derived.Laws.OwnMore
import Derived.Deep.OwnRows
import Derived.Tactics
import Derived.Lib.ConvBytes
import Derived.Laws.Slices
import Derived.WalkKit
import Derived.KernelRfl
import Derived.RowKit3
import Derived.Deep.LoopGhost
import Derived.Deep.QuietTactic
import Derived.BigQuiet
import Derived.WideLaws
import Derived.Deep.DeepCutAuto
import Derived.Deep.CutBlock
import Derived.Deep.RegionHeld3
import Derived.Laws.Rows
import Derived.Lib.AppendStr
import Derived.ArgAppend
import Derived.Laws.IdiomCopy
import Derived.RowKit
import Derived.OrdersHeld
import Derived.Laws.BitsLemmas
import Derived.Laws.StructEq
import Derived.Deep.RegionLaw
import Derived.Deep.RegionWith
import Derived.BigRegion
import Derived.IntWalk
import Derived.StillTailTactics
import Derived.Outline
import Derived.Lib.SliceRun
set_option linter.unusedSimpArgs false
set_option linter.unusedVariables false
/- slices.Grow of nil, slices.Concat of rows of numbers. -/
namespace Go.Proofs.Ytkkfpmgmicfkfaa.X
open Go.RowKit Go.Proofs.YtkkfpmgmicfkfaaW.PrintWords Go.Proofs.YtkkfpmgmicfkfaaW.PrintLast Go.Proofs.YtkkfpmgmicfkfaaW.PrintMore Go.Proofs.Ytkkfpmgmicfkfaa
set_option maxRecDepth 100000 in
theorem grow_nil (n : Int) (w : World) (h0 : 0 ≤ n) (hn : n ≤ 17592186044416) :
 Calls Try.prog 125 #[.slice none 0 0, .int .i64 n] w fun e w' => ∃ v, e = .returned v ∧ Kd.R (Kd.int .i64) 3 w' w.heap.size (fun _ => True) v [] ∧ Below w.heap.size w w' := by
 have hlt0 : decide (n < 0) = false := by simp; omega
 by_cases hp : 0 < n
 · have hp' : decide (0 < n) = true := by simpa using hp
   clear hp
   go_enter Try.func125, Try.ntmps125
   go_wp2_with (at_builtin; go_loud (refine Kd.R_append_zeros (Kd.int .i64) (w0 := w) w.heap.size rfl (.tmp 20) (.tmp 21) 31 3 3 (.int .i64 0) 8 rfl Try.underlying31 Try.underlying3 info3 rfl (by decide) (by omega) (.slice none 0 0) ([] : List Int) 0 n (fun _ => True) rfl rfl ?aZ ?aF ?aO ?aN ?aB ?aS ?aL ?_); (case aZ => exact rfl); (case aF => exact fun _ _ => trivial); (case aO => exact Kd.R_nil _ _ _ _ _); (case aN => exact h0); (case aB => exact Below.refl _ _); (case aS => exact Nat.le_refl _); (case aL => simp; omega); intro v1 w1 ho hb hg hat; obtain ⟨A, c, rfl, hle, hC⟩ := Kd.R_reads ho; have HO := Aside0.mk ho; have HB := Aside0.mk hb; clear ho hb hg hat hC)
   go_ret
   exact ⟨_, rfl, by have := Kd.R_take (m := 0) HO.out (Nat.zero_le _); simpa using this, HB.out⟩
 · have hp' : decide (0 < n) = false := by simpa using hp
   have : n = 0 := by omega
   subst this
   go_enter Try.func125, Try.ntmps125
   go_wp2
   go_ret
   exact ⟨_, rfl, Kd.R_nil _ _ _ _ _, Below.refl _ _⟩
theorem rows_step (xs : List (List Int)) (i : Int) (h0 : 0 ≤ i) (h1 : i < xs.length) : (xs.take (i + 1).toNat).flatten = (xs.take i.toNat).flatten ++ Rows1.rdr xs i := by
 have e : (i + 1).toNat = i.toNat + 1 := by omega
 have hl : i.toNat < xs.length := by omega
 rw [e, List.take_succ_eq_append_getElem hl, List.flatten_append]
 simp [Rows1.rdr, List.getD_eq_getElem?_getD, hl]
theorem rows_le (xs : List (List Int)) (n : Nat) : (xs.take n).flatten.length ≤ xs.flatten.length := by
 have := congrArg List.length (congrArg List.flatten (List.take_append_drop n xs))
 rw [List.flatten_append, List.length_append] at this
 omega
set_option maxHeartbeats 8000000 in
set_option maxRecDepth 100000 in
theorem concat_int (A0 : Option Addr) (c0 : Nat) (xs : List (List Int)) (w : World) (hr : Kd.C (Kd.slice 3 (Kd.int .i64)) w A0 xs.length xs) (hn : xs.flatten.length ≤ 17592186044415) :
 Calls Try.prog 68 #[.slice A0 xs.length c0] w fun e w' => ∃ v, e = .returned v ∧ Kd.R (Kd.int .i64) 3 w' w.heap.size (fun _ => True) v xs.flatten ∧ Below w.heap.size w w' := by
 have hl := hr.2.1
 have HR := Aside0.mk hr
 have HN := Aside0.mk hn
 clear hr hn
 go_enter Try.func68, Try.ntmps68
 go_wp2
 go_loopg [3, 5, 11] xs.length (fun gg v3 v5 v11 W => ∃ (i s : Int), 0 ≤ i ∧ i ≤ xs.length ∧ xs.length - i.toNat ≤ gg ∧ v11 = .int .i64 i ∧ v3 = .int .i64 s ∧ Aside0 (s = ((xs.take i.toNat).flatten.length : Int)) ∧ Aside0 (Below w.heap.size w W))
 case atStart => exact ⟨0, 0, by omega, by omega, by omega, rfl, rfl, ⟨by simp⟩, ⟨Below.refl _ _⟩⟩
 case round =>
  obtain ⟨i, s, h0, h1, hg, rfl, rfl, HS, BW⟩ := hrel
  have hs0 : 0 ≤ s := by have := HS.out; omega
  have hs1 : s ≤ 17592186044415 := by have := HS.out; have := rows_le xs i.toNat; have := HN.out; omega
  by_cases hlt : i < xs.length
  · obtain ⟨ad, A, c, e, hx, hle, hC⟩ := Rows1.at_rows (Kd.C_below HR.out BW.out) i h0 hlt
    cases e
    have HS2 := Aside0.mk (congrArg List.length (rows_step xs i h0 hlt))
    have hs2 : s + ((Rows1.rdr xs i).length : Int) ≤ 17592186044415 := by
     have h1 := HS2.out
     rw [List.length_append] at h1
     have := HS.out
     have := rows_le xs (i + 1).toNat
     have := HN.out
     omega
    clear hle hC
    generalize Rows1.rdr xs i = x at hx HS2 hs2
    go_wp2
    go_roundg (xs.length - (i + 1).toNat)
    case measure => omega
    case rel => exact ⟨i + 1, s + x.length, by omega, by omega, Nat.le_refl _, rfl, rfl, ⟨by rw [HS2.out, List.length_append, HS.out]; omega⟩, ⟨BW.out⟩⟩
  · have hi : i = xs.length := by omega
    have HS' := Aside0.mk (show s = (xs.flatten.length : Int) by have := HS.out; rwa [hi, Int.toNat_natCast, List.take_length] at this)
    clear HS hi
    go_wp2_with fail
    refine (grow_nil s wr hs0 (by omega)).mono ?_
    rintro e w1 ⟨v1, rfl, hR, hb⟩
    have R1 := Aside0.mk (Kd.R_lower hR BW.out.size)
    have B1 := Aside0.mk (below_then BW.out BW.out.size hb)
    clear hR hb BW
    go_wp2
    go_loopg [6, 8, 27] xs.length (fun gg v6 v8 v27 W => ∃ i : Int, 0 ≤ i ∧ i ≤ xs.length ∧ xs.length - i.toNat ≤ gg ∧ v27 = .int .i64 i ∧ Aside0 (Below w.heap.size w W) ∧ Aside0 (Kd.R (Kd.int .i64) 3 W w.heap.size (fun _ => True) v6 (xs.take i.toNat).flatten))
    case atStart => exact ⟨0, by omega, by omega, by omega, rfl, ⟨B1.out⟩, ⟨R1.out⟩⟩
    case round =>
     clear R1 B1
     rename_i i0 _ _ _ _ _ _ _ _
     obtain ⟨i, h0, h1, hg, rfl, BW, RO⟩ := hrel
     by_cases hlt : i < xs.length
     · obtain ⟨ad, A, c, e, hx, hle, hC⟩ := Rows1.at_rows (Kd.C_below HR.out BW.out) i h0 hlt
       cases e
       have HC := Aside0.mk hC
       have HS2 := Aside0.mk (rows_step xs i h0 hlt)
       have HS3 := Aside0.mk (show ((xs.take i.toNat).flatten.length + (Rows1.rdr xs i).length) * 8 ≤ 140737488355328 by
        have h1 := congrArg List.length HS2.out
        rw [List.length_append] at h1
        have := rows_le xs (i + 1).toNat
        have := HN.out
        omega)
       clear hle hC
       generalize Rows1.rdr xs i = x at hx HS2 HS3 HC
       go_wp2_with ((with_reducible refine gate_builtin (b := .append) (xs := #[.tmp 31, .tmp 32]) rfl ?_); at_builtin; go_loud (refine Kd.R_append_rows (Kd.int .i64) (w0 := w) w.heap.size rfl (.tmp 31) (.tmp 32) 31 3 (.int .i64 0) 8 rfl Try.underlying31 info3 rfl (by decide) (by omega) u6 (xs.take i.toNat).flatten x A x.length c (fun _ => True) (fun _ => False) rfl rfl ?aO ?aR (fun _ _ h => h) (fun _ h => h.elim) ?aF ?aB ?aS ?aL ?_); (case aR => exact HC.out); (case aB => exact BW.out); (case aF => exact fun _ _ => trivial); (case aO => exact RO.out); (case aS => exact below_size BW.out); (case aL => exact HS3.out); intro v2 w2 ho hb hg' hat; have RO2 := Aside0.mk ho; have BW2 := Aside0.mk hb; clear ho hb hg' hat)
       go_roundg (xs.length - (i + 1).toNat)
       case measure => omega
       case rel => exact ⟨i + 1, by omega, by omega, Nat.le_refl _, rfl, ⟨BW2.out⟩, ⟨by rw [HS2.out]; exact RO2.out⟩⟩
     · have hi : i = xs.length := by omega
       have RO' := Aside0.mk (show Kd.R (Kd.int .i64) 3 _ w.heap.size (fun _ => True) _ xs.flatten from by have := RO.out; rwa [hi, Int.toNat_natCast, List.take_length] at this)
       clear RO hi
       go_wp2
       go_ret
       exact ⟨_, rfl, RO'.out, BW.out⟩
end Go.Proofs.Ytkkfpmgmicfkfaa.X
set_option linter.unusedVariables false
/- topo.Order. -/
namespace Go.Proofs.Ytkkfpmgmicfkfaa.X
open Go.RowKit Go.Proofs.YtkkfpmgmicfkfaaW.PrintWords Go.Proofs.YtkkfpmgmicfkfaaW.PrintLast Go.Proofs.YtkkfpmgmicfkfaaW.PrintMore Go.Proofs.Ytkkfpmgmicfkfaa
def readyOf (l : List S40) (left : List Int) (n : Int) : Bool := TopoMath.ready (·.f0) (·.f1) l left n
def kahnOf (l : List S40) (k : Nat) (left out : List Int) : Option (List Int) := TopoMath.kahn (·.f0) (·.f1) l k left out
def nodesOf (l : List S40) : List Int := TopoMath.nodes (·.f0) (·.f1) l
def orderOf (l : List S40) : Option (List Int) := TopoMath.order (·.f0) (·.f1) l
theorem rd_take (l : List Int) (i : Int) (h0 : 0 ≤ i) (h1 : i < l.length) : l.take (i + 1).toNat = l.take i.toNat ++ [rd l i] := by
 have e : (i + 1).toNat = i.toNat + 1 := by omega
 have hl : i.toNat < l.length := by omega
 rw [e, List.take_succ_eq_append_getElem hl]
 simp [rd, List.getD_eq_getElem?_getD, hl]
theorem split_at (left : List Int) (i : Int) (h0 : 0 ≤ i) (hi : i < left.length) : left = left.take i.toNat ++ rd left i :: left.drop (i.toNat + 1) := by
 have hl : i.toNat < left.length := by omega
 have h1 : rd left i = left[i.toNat] := by simp [rd, List.getD_eq_getElem?_getD, hl]
 rw [h1, ← List.drop_eq_getElem_cons hl, List.take_append_drop]
theorem kahn_step (l : List S40) (left out : List Int) (i x : Int) (h0 : 0 ≤ i) (hi : i < left.length) (hx : rd left i = x) (ha : ∀ z ∈ left.take i.toNat, readyOf l left z = false) (hr : readyOf l left x = true) :
 kahnOf l (left.eraseIdx i.toNat).length (left.eraseIdx i.toNat) (out ++ [x]) = kahnOf l left.length left out := by
 have hs := split_at left i h0 hi
 rw [hx] at hs
 have hnx : x ∉ left.take i.toNat := fun h => by rw [ha x h] at hr; cases hr
 have he : left.erase x = left.eraseIdx i.toNat := by
  rw [List.eraseIdx_eq_take_drop_succ]
  conv => lhs; rw [hs]
  rw [List.erase_append_right _ hnx, List.erase_cons_head]
 have hf : left.find? (readyOf l left) = some x := by
  have h1 : (left.take i.toNat ++ x :: left.drop (i.toNat + 1)).find? (readyOf l left) = some x := by
   rw [List.find?_append, List.find?_eq_none.2 (fun z hz => by rw [ha z hz]; simp), Option.none_or, List.find?_cons_of_pos hr]
  rwa [← hs] at h1
 have hlen : left.length = (left.eraseIdx i.toNat).length + 1 := by
  rw [List.length_eraseIdx]
  simp only [show i.toNat < left.length by omega, if_true]
  omega
 have hne : left ≠ [] := fun e => by rw [e] at hlen; simp at hlen
 rw [hlen]
 unfold kahnOf
 conv => rhs; unfold TopoMath.kahn
 rw [if_neg hne, show left.find? (TopoMath.ready (·.f0) (·.f1) l left) = some x from hf]
 show _ = TopoMath.kahn _ _ l _ (left.erase x) (out ++ [x])
 rw [he]
theorem kahn_stuck (l : List S40) (left out : List Int) (hp : 0 < left.length) (ha : ∀ z ∈ left, readyOf l left z = false) : kahnOf l left.length left out = none := by
 obtain ⟨n, hn⟩ : ∃ n, left.length = n + 1 := ⟨left.length - 1, by omega⟩
 have hne : left ≠ [] := fun e => by rw [e] at hp; simp at hp
 rw [hn]
 unfold kahnOf TopoMath.kahn
 rw [if_neg hne, show left.find? (TopoMath.ready (·.f0) (·.f1) l left) = none from List.find?_eq_none.2 (fun z hz => by rw [show TopoMath.ready (·.f0) (·.f1) l left z = false from ha z hz]; simp)]
/-- Rows that lie as two cells in a block. -/
theorem two_rows {w : World} {g : Nat} {A1 A2 : Option Addr} {c1 c2 : Nat} {l1 l2 : List Int} (hb : w.heap[g]? = some (.cells #[.slice A1 l1.length c1, .slice A2 l2.length c2] 31 (0, 0)))
 (h1 : Kd.C (Kd.int .i64) w A1 l1.length l1) (hc1 : l1.length ≤ c1) (h2 : Kd.C (Kd.int .i64) w A2 l2.length l2) (hc2 : l2.length ≤ c2) :
 Kd.C (Kd.slice 3 (Kd.int .i64)) w (some ⟨g, 0, none⟩) 2 [l1, l2] := by
 refine ⟨rfl, by omega, fun _ => ⟨_, rfl, fun j p hj => ?_⟩⟩
 match j, hj with
 | 0, hj =>
  simp at hj
  subst hj
  refine ⟨[.slice A1 l1.length c1], rfl, ⟨A1, c1, rfl, hc1, h1⟩, fun i u hu => ?_⟩
  cases i with
  | zero =>
   simp at hu
   subst hu
   exact (blk_cell hb 0).trans rfl
  | succ i => simp at hu
 | 1, hj =>
  simp at hj
  subst hj
  refine ⟨[.slice A2 l2.length c2], rfl, ⟨A2, c2, rfl, hc2, h2⟩, fun i u hu => ?_⟩
  cases i with
  | zero =>
   simp at hu
   subst hu
   exact (blk_cell hb 1).trans rfl
  | succ i => simp at hu
 | j + 2, hj => simp at hj
theorem order_none (ep : Int) (A1 : Option Addr) (c1 : Nat) (up : List Bool) (A2 : Option Addr) (c2 : Nat) (hops : List (List S40)) (flow : Int) (w : World) (hin : ¬ (0 ≤ flow ∧ flow < hops.length)) (hl : hops.length ≤ 9223372036854775807) :
 Calls Try.prog 14 #[.agg #[.int .u64 ep, .slice A1 up.length c1, .slice A2 hops.length c2], .int .i64 flow] w fun e w' => e = .returned (.tuple #[.slice none 0 0, .int .i64 1]) ∧ Below w.heap.size w w' := by
 have HR := Aside0.mk (show decide (0 ≤ flow ∧ flow ≤ (hops.length : Int) - 1) = false by simp; omega)
 clear hin
 go_enter Try.func14, Try.ntmps14
 go_wp2_with fail
 go_step3
 go_wp2_with fail
 refine (within_any flow 0 (hops.length - 1) false _ HR.out).mono ?_
 rintro e w' ⟨rfl, rfl⟩
 go_wp2
 rw [Exit.noGoto_ret]
 go_ret2
 exact ⟨rfl, below_alloc (Below.refl _ _) _⟩
set_option maxHeartbeats 8000000 in
set_option maxRecDepth 100000 in
theorem order_some (ep : Int) (A1 : Option Addr) (c1 : Nat) (up : List Bool) (A2 : Option Addr) (c2 : Nat) (hops : List (List S40)) (flow : Int) (w : World) (h0 : 0 ≤ flow) (h1 : flow < hops.length)
 (hh : Kd.C (Kd.slice 40 k40) w A2 hops.length hops) (hlen : (Rows1.rdr hops flow).length ≤ 8796093021952) :
 Calls Try.prog 14 #[.agg #[.int .u64 ep, .slice A1 up.length c1, .slice A2 hops.length c2], .int .i64 flow] w fun e w' => ∃ v0 r n, e = .returned (.tuple #[v0, .int .i64 n]) ∧ Aside0 ((orderOf (Rows1.rdr hops flow) = some r ∧ n = 0) ∨ (orderOf (Rows1.rdr hops flow) = none ∧ r = [] ∧ n = 1)) ∧ Kd.R (Kd.int .i64) 3 w' w.heap.size (fun _ => True) v0 r ∧ Below w.heap.size w w' := by
 have hl := hh.2.1
 have HH := Aside0.mk hh
 have HL := Aside0.mk hlen
 have HR := Aside0.mk (show decide (0 ≤ flow ∧ flow ≤ (hops.length : Int) - 1) = true by simp; omega)
 obtain ⟨ad, A, c, eA, hx0, hle, hC⟩ := Rows1.at_rows HH.out flow h0 h1
 cases eA
 have hx := pw_cell_below (below_alloc (Below.refl w.heap.size w) (.cells #[.int .u64 ep, .slice A1 up.length c1, .slice (some ad) hops.length c2] 29)) hx0
 clear hx0
 have HC := Aside0.mk hC
 clear hh hlen hle hC
 generalize hE : Rows1.rdr hops flow = l at HC HL hx
 have HE := Aside0.mk hE
 clear hE
 have eg1 : ∀ args w, (callFunc 65 args).run Try.prog w = .ok (.enter 65 args) w := enters_of Try.func65 (by kernel_rfl) rfl
 have eg2 : ∀ args w, (callFunc 69 args).run Try.prog w = .ok (.enter 69 args) w := enters_of Try.func69 (by kernel_rfl) rfl
 have eg3 : ∀ args w, (callFunc 70 args).run Try.prog w = .ok (.enter 70 args) w := enters_of Try.func70 (by kernel_rfl) rfl
 have eg4 : ∀ args w, (callFunc 74 args).run Try.prog w = .ok (.enter 74 args) w := enters_of Try.func74 (by kernel_rfl) rfl
 go_enter Try.func14, Try.ntmps14
 go_wp2_with fail
 go_step3
 go_wp2_with fail
 refine (within_any flow 0 (hops.length - 1) true _ HR.out).mono ?_
 rintro e w' ⟨rfl, rfl⟩
 go_wp2_with fail
 have hb0 : Below w.heap.size w ((w.alloc (.cells #[.int .u64 ep, .slice A1 up.length c1, .slice (some ad) hops.length c2] 29)).alloc (.cells #[.slice A l.length c] 38)) := below_alloc (below_alloc (Below.refl _ _) _) _
 have hB0 : ((w.alloc (.cells #[.int .u64 ep, .slice A1 up.length c1, .slice (some ad) hops.length c2] 29)).alloc (.cells #[.slice A l.length c] 38)).heap[w.heap.size + 1]? = some (.cells #[.slice A l.length c] 38 (0, 0)) := by simpa using blk_new (w.alloc (.cells #[.int .u64 ep, .slice A1 up.length c1, .slice (some ad) hops.length c2] 29)) _
 generalize hW : ((w.alloc (.cells #[.int .u64 ep, .slice A1 up.length c1, .slice (some ad) hops.length c2] 29)).alloc (.cells #[.slice A l.length c] 38)) = w1 at hb0 hB0 ⊢
 have hgl := blk_lt hB0
 clear hW hx
 generalize hG : w.heap.size + 1 = gl at hB0 hgl ⊢
 have hgl0 : w.heap.size ≤ gl := by omega
 clear hG
 -- both(From)
 refine (topo_order1 69 (·.f0) gl A c l w1 eg2 (fun W x => topo_order2 x W) (blk_cell hB0 0) hgl (Kd.C_below HC.out hb0) HL.out).mono ?_
 rintro e w2 ⟨v1, rfl, hR1, hb1⟩
 have hB1 := (hb1.block gl hgl).trans hB0
 have hbb := below_then hb0 hb0.size hb1
 clear hb1 hb0 hB0
 have HR1 := Aside0.mk hR1; have HB1 := Aside0.mk hB1; have HBB := Aside0.mk hbb
 have hgl := blk_lt hB1
 clear hR1 hB1 hbb
 go_wp2_with fail
 -- both(To)
 refine (topo_order1 70 (·.f1) gl A c l w2 eg3 (fun W x => topo_order3 x W) (blk_cell HB1.out 0) hgl (Kd.C_below HC.out HBB.out) HL.out).mono ?_
 rintro e w3 ⟨v2, rfl, hR2, hb2⟩
 have hB2 := Aside0.mk ((hb2.block gl hgl).trans HB1.out)
 have hR1' := Aside0.mk (Kd.R_below HR1.out hb2)
 have hbb := Aside0.mk (below_then HBB.out HBB.out.size hb2)
 have HR2 := Aside0.mk hR2
 clear hb2 HB1 HR1 HBB hR2
 obtain ⟨a1, cc1, rfl, hle1, hK1⟩ := Kd.R_reads hR1'.out
 obtain ⟨a2, cc2, rfl, hle2, hK2⟩ := Kd.R_reads HR2.out
 have HK1 := Aside0.mk (And.intro hle1 hK1)
 have HK2 := Aside0.mk (And.intro hle2 hK2)
 clear hle1 hle2 hK1 hK2 HR2 hR1'
 have hl1 := Aside0.mk (TopoMath.rise_length_le (l.map (·.f0)))
 have hl2 := Aside0.mk (TopoMath.rise_length_le (l.map (·.f1)))
 generalize hr1 : TopoMath.rise (l.map (·.f0)) = r1 at HK1 hl1
 generalize hr2 : TopoMath.rise (l.map (·.f1)) = r2 at HK2 hl2
 have HE1 := Aside0.mk hr1
 have HE2 := Aside0.mk hr2
 clear hr1 hr2
 go_wp2_with fail
 have hb3 : Below w3.heap.size w3 (w3.alloc (.cells #[.slice a1 r1.length cc1, .slice a2 r2.length cc2] 31)) := below_alloc (Below.refl _ _) _
 have hT := two_rows (blk_new w3 (.cells #[.slice a1 r1.length cc1, .slice a2 r2.length cc2] 31)) (Kd.C_below HK1.out.2 hb3) HK1.out.1 (Kd.C_below HK2.out.2 hb3) HK2.out.1
 refine (concat_int _ 2 [r1, r2] _ hT (by have := hl1.out; have := hl2.out; have := HL.out; simp at *; omega)).mono ?_
 rintro e w4 ⟨v4, rfl, hR, hb⟩
 have HR4 := Aside0.mk (Kd.R_lower hR (below_then hbb.out hbb.out.size hb3).size)
 have hB4 := Aside0.mk ((hb.block gl (Nat.lt_of_lt_of_le (blk_lt hB2.out) hb3.size)).trans ((hb3.block gl (blk_lt hB2.out)).trans hB2.out))
 have hbb4 := Aside0.mk (below_then (below_then hbb.out hbb.out.size hb3) (below_then hbb.out hbb.out.size hb3).size hb)
 clear hT hR hb hb3 hB2 hbb HK1 HK2
 generalize hfl : [r1, r2].flatten = r at HR4
 have HF := Aside0.mk (show r.length < 4611686018427387904 ∧ TopoMath.rise r = nodesOf l by
  refine ⟨?_, ?_⟩
  · rw [← hfl]
    have := hl1.out; have := hl2.out; have := HL.out
    simp at *; omega
  · rw [← hfl, ← HE1.out, ← HE2.out]
    exact TopoMath.nodes_alt _ _ l)
 clear hfl hl1 hl2 HE1 HE2
 obtain ⟨a4, cc4, rfl⟩ := Kd.R_slice HR4.out
 go_wp2_with fail
 have hb5 : Below w4.heap.size w4 (w4.alloc (.cells #[.slice a4 r.length cc4] 31)) := below_alloc (Below.refl _ _) _
 have hgl5 := blk_new w4 (.cells #[.slice a4 r.length cc4] 31)
 have hB5 := (hb5.block gl (blk_lt hB4.out)).trans hB4.out
 have hR5 := Kd.R_below HR4.out hb5
 have hbb5 := below_then hbb4.out hbb4.out.size hb5
 have hgb : w.heap.size ≤ w4.heap.size := hbb4.out.size
 clear hb5 hB4 HR4 hbb4
 generalize (w4.alloc (.cells #[.slice a4 r.length cc4] 31)) = w5 at hgl5 hB5 hR5 hbb5 ⊢
 generalize w4.heap.size = gb at hgl5 hgb ⊢
 refine (sort_int _ r _ _ w5 hR5 HF.out.1).mono ?_
 rintro e w6 ⟨rfl, hR, hg⟩
 have hgl6 := Aside0.mk (blk_grown hgl5 hg (Kd.R_ne hR5 hgl5 (by decide)))
 have hB6 := Aside0.mk (blk_grown hB5 hg (Kd.R_ne hR5 hB5 (by decide)))
 have hbb6 := Aside0.mk (pw_below_grown hbb5 _ hbb5.size hg (own_base (Kd.own_of_R hR5)))
 have HR6 := Aside0.mk hR
 clear hR hg hgl5 hB5 hR5 hbb5
 have hcb := blk_cell hgl6.out 0
 have hfb := blk_frozen hgl6.out 0
 go_wp2_with fail
 refine (compact_int _ _ _ _ w6 HR6.out (by rw [List.length_mergeSort]; have := HF.out.1; omega)).mono ?_
 rintro e w7 ⟨v7, rfl, ho, hR, hg⟩
 have hgl7 := Aside0.mk (blk_grown hgl6.out hg (Kd.R_ne HR6.out hgl6.out (by decide)))
 have hB7 := Aside0.mk (blk_grown hB6.out hg (Kd.R_ne HR6.out hB6.out (by decide)))
 have hbb7 := Aside0.mk (pw_below_grown hbb6.out _ hbb6.out.size hg (own_base (Kd.own_of_R HR6.out)))
 rw [compact_sorted, HF.out.2] at hR
 have HR7 := Aside0.mk hR
 clear hR hg hgl6 hB6 hbb6 HR6 hcb hfb ho
 have hcb := blk_cell hgl7.out 0
 have hfb := blk_frozen hgl7.out 0
 obtain ⟨a7, c7, rfl⟩ := Kd.R_slice HR7.out
 go_wp2
 have hgl8 := Aside0.mk (show (w7.setCell ⟨gb, 0, none⟩ (.slice a7 (nodesOf l).length c7)).heap[gb]? = some (.cells #[.slice a7 (nodesOf l).length c7] 31 (0, 0)) by simpa using blk_set hgl7.out 0 (.slice a7 (nodesOf l).length c7))
 have hB8 := Aside0.mk (blk_far hB7.out (p := ⟨gb, 0, none⟩) (blk_ne hB7.out hgl7.out (by decide)) (.slice a7 (nodesOf l).length c7))
 have hbb8 := Aside0.mk (below_set (j := 0) (v := .slice a7 (nodesOf l).length c7) hbb7.out hgb)
 have HR8 := Aside0.mk (Kd.R_set HR7.out hgl7.out (by decide) 0 (.slice a7 (nodesOf l).length c7))
 clear hgl7 hB7 hbb7 HR7 hcb hfb
 generalize (w7.setCell ⟨gb, 0, none⟩ (.slice a7 (nodesOf l).length c7)) = w8 at hgl8 hB8 hbb8 HR8 ⊢
 have hnl := Aside0.mk (show (nodesOf l).length ≤ 2 * l.length from TopoMath.nodes_length_le (E := S40) (fun x => x.f0) (fun x => x.f1) l)
 go_step3
 go_wp2
 go_loopg [9, 10, 11] (nodesOf l).length (fun gg v9 v10 v11 W => ∃ (out left : List Int) (v : Value), left.length ≤ gg ∧ Aside0 (W.heap[gb]? = some (.cells #[v] 31 (0, 0))) ∧ Aside0 (W.heap[gl]? = some (.cells #[.slice A l.length c] 38 (0, 0))) ∧ Aside0 (Below w.heap.size w W) ∧
  Aside0 (Kd.R (Kd.int .i64) 3 W w.heap.size (fun k => some k ≠ v.ownBlock) v9 out) ∧ Aside0 (Kd.R (Kd.int .i64) 3 W w.heap.size (fun _ => True) v left) ∧ Aside0 (kahnOf l left.length left out = orderOf l) ∧ Aside0 (out.length + left.length ≤ (nodesOf l).length))
 case atStart => exact ⟨[], nodesOf l, _, Nat.le_refl _, hgl8, hB8, hbb8, ⟨Kd.R_nil _ _ _ _ _⟩, HR8, ⟨rfl⟩, ⟨by simp⟩⟩
 case round =>
  clear hgl8 hB8 hbb8 HR8
  obtain ⟨out, left, v, hg, HG, HB, BW, RO, RL, HK, HN⟩ := hrel
  obtain ⟨a, cc, rfl⟩ := Kd.R_slice RL.out
  have hcb := blk_cell HG.out 0
  by_cases hpos : 0 < left.length
  · have hpos' : decide (0 < left.length) = true := by simpa using hpos
    have HP := Aside0.mk hpos
    clear hpos
    have hll : left.length ≤ 9223372036854775807 := (Kd.R_reads' RL.out).2.2.2.1
    obtain ⟨wo, rfl⟩ : ∃ wo : World, wo = wr := ⟨_, rfl⟩
    obtain ⟨vo, rfl⟩ : ∃ vo : Value, vo = u9 := ⟨_, rfl⟩
    go_wp2
    clear hpos' hcb
    go_loopg [9, 10, 11, 40] left.length (fun gg2 v9 v10 v11 v40 W => ∃ i : Int, v9 = vo ∧ 0 ≤ i ∧ i ≤ left.length ∧ left.length - i.toNat ≤ gg2 ∧ v40 = .int .i64 i ∧ Aside0 (Below wo.heap.size wo W) ∧ Aside0 (∀ x ∈ left.take i.toNat, readyOf l left x = false))
    case atStart => exact ⟨0, rfl, by omega, by omega, by omega, rfl, ⟨Below.refl _ _⟩, ⟨by simp⟩⟩
    case round =>
     obtain ⟨i, rfl, hi0, hi1, hg2, rfl, BO, HA⟩ := hrel
     by_cases hlt : i < left.length
     · obtain ⟨ad2, e2, hx⟩ := Kd.at_int (Kd.R_reads' (Kd.R_below RL.out BO.out)).2.2 i hi0 hlt
       cases e2
       have hxr := Aside0.mk (rd_take left i hi0 hlt)
       generalize hy : rd left i = x at hx hxr
       have HY := Aside0.mk hy
       clear hy
       have HGi := Aside0.mk ((BO.out.block gb (blk_lt HG.out)).trans HG.out)
       have HBi := Aside0.mk ((BO.out.block gl (blk_lt HB.out)).trans HB.out)
       have hlc : wr.cell? ⟨gl, 0, none⟩ = some (.slice A l.length c) := (blk_cell HBi.out 0).trans rfl
       have hln : gl ≠ wr.heap.size := Nat.ne_of_lt (blk_lt HBi.out)
       have hlk : gl < wr.heap.size := blk_lt HBi.out
       go_wp2_with fail
       have hbn : Below wr.heap.size wr (wr.alloc (.cells #[.int .i64 x] 3)) := below_alloc (Below.refl _ _) _
       have HNi := Aside0.mk (blk_new wr (.cells #[.int .i64 x] 3))
       have HGn := Aside0.mk ((hbn.block gb (blk_lt HGi.out)).trans HGi.out)
       have BWn := Aside0.mk (below_then (below_then BW.out BW.out.size BO.out) (below_then BW.out BW.out.size BO.out).size hbn)
       have RLn := Aside0.mk (Kd.R_below (Kd.R_below RL.out BO.out) hbn)
       have BOn := Aside0.mk (below_then BO.out BO.out.size hbn)
       clear hlc hln hlk hbn hx
       generalize (wr.alloc (.cells #[.int .i64 x] 3)) = w9 at HNi HGn BWn RLn BOn ⊢
       generalize wr.heap.size = gn at HNi ⊢
       refine (containsFunc_edge A c l 74 #[.pointer (some ⟨gn, 0, none⟩), .pointer (some ⟨gb, 0, none⟩)] (fun e => e.f1 == x && left.contains e.f0) w9 eg4 (Kd.C_below HC.out BWn.out) (fun W e hW => ?_)).mono ?_
       · have hL := Kd.R_reads' (Kd.R_below RLn.out hW)
         exact topo_order4 x gn gb (some ad2) cc left e W ((hW.cell (p := ⟨gn, 0, none⟩) (blk_lt HNi.out)).trans (blk_cell HNi.out 0)) (Nat.lt_of_lt_of_le (blk_lt HNi.out) hW.size) ((hW.cell (p := ⟨gb, 0, none⟩) (blk_lt HGn.out)).trans (blk_cell HGn.out 0)) (Nat.lt_of_lt_of_le (blk_lt HGn.out) hW.size) hL.2.2 hL.2.1
       rintro e wD ⟨rfl, hb⟩
       have HNm := Aside0.mk ((hb.block gn (blk_lt HNi.out)).trans HNi.out)
       have HGm := Aside0.mk ((hb.block gb (blk_lt HGn.out)).trans HGn.out)
       have BWm := Aside0.mk (below_then BWn.out BWn.out.size hb)
       have BOm := Aside0.mk (below_then BOn.out BOn.out.size hb)
       have RLm := Aside0.mk (Kd.R_below RLn.out hb)
       clear hb HNi HGn BWn BOn RLn
       have HQ := Aside0.mk (show readyOf l left x = !(l.any fun e => e.f1 == x && left.contains e.f0) from rfl)
       generalize (l.any fun e => e.f1 == x && left.contains e.f0) = q at HQ
       cases q with
       | true =>
        go_wp2
        go_roundg (left.length - (i + 1).toNat)
        case measure => omega
        case rel =>
         exact ⟨i + 1, rfl, by omega, by omega, Nat.le_refl _, rfl, BOm, ⟨fun z hz => by
          rw [hxr.out, List.mem_append] at hz
          rcases hz with hz | hz
          · exact HA.out z hz
          · rw [List.mem_singleton.1 hz]
            exact HQ.out⟩⟩
       | false =>
        go_wp2
        have hwr := Aside0.mk (show IntKind.i64.wrap (i + 1) = i + 1 from IntWalk.i64_in _ (by omega))
        have cN : wD.drew.cell? ⟨gn, 0, none⟩ = some (.int .i64 x) := (blk_cell HNm.out 0).trans rfl
        have cG : wD.drew.cell? ⟨gb, 0, none⟩ = some (.slice (some ad2) left.length cc) := (blk_cell HGm.out 0).trans rfl
        have ltN : gn < wD.drew.heap.size := blk_lt HNm.out
        have ltG : gb < wD.heap.size := blk_lt HGm.out
        have neG : gb ≠ wD.heap.size := Nat.ne_of_lt ltG
        have cG' : wD.cell? ⟨gb, 0, none⟩ = some (.slice (some ad2) left.length cc) := (blk_cell HGm.out 0).trans rfl
        have ROm := Aside0.mk (Kd.R_below RO.out BOm.out)
        have HGd := Aside0.mk (show wD.drew.heap[gb]? = _ from HGm.out)
        have HBd := Aside0.mk (show wD.drew.heap[gl]? = _ from (BOm.out.block gl (blk_lt HB.out)).trans HB.out)
        have BWd := Aside0.mk (below_drew BWm.out)
        have ROd := Aside0.mk (Kd.R_drew ROm.out)
        have RLd := Aside0.mk (Kd.R_drew RLm.out)
        have hfr := Aside0.mk (show ∀ k, wD.drew.heap.size ≤ k → some k ≠ (Value.slice (some ad2) left.length cc).ownBlock from fun k hk e => absurd (own_lt (Kd.own_of_R RLd.out) k e.symm) (by omega))
        clear HNm HGm BWm BOm RLm ROm
        go_region_law (first | (
         rw [show (wD.alloc (.cells #[.int .i64 x] 3)).drew = wD.drew.alloc (.cells #[.int .i64 x] 3) from rfl]
         refine Kd.R_append_step (Kd.int .i64) (w0 := w) w.heap.size ?hw (.tmp 49) (.tmp 51) 31 3 (.int .i64 0) 8 ?ho Try.underlying31 info3 rfl (by decide) (by omega) u9 out x [.int .i64 x] (fun k => some k ≠ (Value.slice (some ad2) left.length cc).ownBlock) (fun _ => False) ?hs ?hx rfl (fun _ hk => hk.elim) hfr.out ROd.out BWd.out BWd.out.size (by have := HN.out; have := hnl.out; have := HL.out; have := HP.out; omega) ?_
         case hw => rfl
         case ho => rfl
         case hs => rfl
         case hx => rfl
         intro v2 w2 ho hb hg hat
         have HG2 := Aside0.mk (blk_grown HGd.out hg (Kd.R_ne ROd.out HGd.out (by decide)))
         have HB2 := Aside0.mk (blk_grown HBd.out hg (Kd.R_ne ROd.out HBd.out (by decide)))
         have RL2 := Aside0.mk (Kd.R_grown (Rows1.R_apart RLd.out ROd.out) hg (fun _ hk => hk))
         have RO2 := Aside0.mk ho
         have BW2 := Aside0.mk hb
         have cG2 : w2.cell? ⟨gb, 0, none⟩ = some (.slice (some ad2) left.length cc) := (blk_cell HG2.out 0).trans rfl
         clear ho hb hg hat) | (
         go_simp
         go_at_call 76
         rw [hwr.out]
         refine (delete_int (.slice (some ad2) left.length cc) left i w.heap.size _ w2 RL2.out hi0 hlt).mono ?_
         rintro e w3 ⟨v3, rfl, ho3, hR3, hg3⟩
         have HG3 := Aside0.mk (blk_grown HG2.out hg3 (Kd.R_ne RL2.out HG2.out (by decide)))
         have HB3 := Aside0.mk (blk_grown HB2.out hg3 (Kd.R_ne RL2.out HB2.out (by decide)))
         have BW3 := Aside0.mk (pw_below_grown BW2.out _ BW2.out.size hg3 (own_base (Kd.own_of_R RL2.out)))
         have RO3 := Aside0.mk (Kd.R_grown RO2.out hg3 (fun _ hk => hk))
         have RL3 := Aside0.mk hR3
         have OW3 := Aside0.mk ho3
         obtain ⟨a3, c3, rfl⟩ := Kd.R_slice hR3
         have cG3 := blk_cell HG3.out 0
         have fG3 := blk_frozen HG3.out 0
         clear hR3 hg3 ho3))
        all_goals
         have HK4 := Aside0.mk (kahn_step l left out i x hi0 hlt HY.out HA.out HQ.out)
         have hle4 : (left.eraseIdx i.toNat).length = left.length - 1 := by
          rw [List.length_eraseIdx]
          simp [show i.toNat < left.length by omega]
         have HG4 := Aside0.mk (show (w3.setCell ⟨gb, 0, none⟩ (.slice a3 (left.eraseIdx i.toNat).length c3)).heap[gb]? = some (.cells #[.slice a3 (left.eraseIdx i.toNat).length c3] 31 (0, 0)) by simpa using blk_set HG3.out 0 (.slice a3 (left.eraseIdx i.toNat).length c3))
         have HB4 := Aside0.mk (blk_far HB3.out (p := ⟨gb, 0, none⟩) (blk_ne HB3.out HG3.out (by decide)) (.slice a3 (left.eraseIdx i.toNat).length c3))
         have BW4 := Aside0.mk (below_set (j := 0) (v := .slice a3 (left.eraseIdx i.toNat).length c3) BW3.out hgb)
         have RO4 := Aside0.mk (Kd.R_set RO3.out HG3.out (by decide) 0 (.slice a3 (left.eraseIdx i.toNat).length c3))
         have RL4 := Aside0.mk (Kd.R_set RL3.out HG3.out (by decide) 0 (.slice a3 (left.eraseIdx i.toNat).length c3))
         clear HG3 HB3 BW3 RO3 RL3 cG3 fG3 cG2 cG cG' neG ltG cN ltN HG2 HB2 RL2 RO2 BW2
         generalize (w3.setCell ⟨gb, 0, none⟩ (.slice a3 (left.eraseIdx i.toNat).length c3)) = w4 at HG4 HB4 BW4 RO4 RL4 ⊢
         have HH4 := Aside0.mk hle4
         clear hle4
         go_wp2
         go_roundg (left.length - 1)
         case measure => have := HP.out; omega
         case rel =>
          exact ⟨out ++ [x], left.eraseIdx i.toNat, .slice a3 (left.eraseIdx i.toNat).length c3, Nat.le_of_eq HH4.out, HG4, HB4, BW4, ⟨by rw [OW3.out]; exact RO4.out⟩, ⟨Kd.R_mono RL4.out (fun _ _ => trivial)⟩, ⟨HK4.out.trans HK.out⟩, ⟨by have := HN.out; have := HP.out; rw [HH4.out, List.length_append]; simp; omega⟩⟩
     · have hi : i = left.length := by omega
       have HK' := Aside0.mk (show orderOf l = none by
        have := HA.out
        rw [hi, Int.toNat_natCast, List.take_length] at this
        rw [← HK.out]
        exact kahn_stuck l left out HP.out this)
       clear hi HA
       go_wp2
       go_ret2
       exact ⟨_, [], 1, rfl, ⟨.inr ⟨HK'.out, rfl, rfl⟩⟩, Kd.R_nil _ _ _ _ _, (below_then BW.out BW.out.size BO.out)⟩
  · have hz : left = [] := List.length_eq_zero_iff.1 (by omega)
    have hpos' : decide (0 < left.length) = false := by simpa using hpos
    have HK' := Aside0.mk (show orderOf l = some out by rw [← HK.out, hz]; simp [kahnOf, TopoMath.kahn])
    clear hz HK hpos
    go_wp2
    rw [Exit.noGoto_ret]
    go_ret2
    exact ⟨u9, out, 0, rfl, ⟨.inl ⟨HK'.out, rfl⟩⟩, Kd.R_mono RO.out (fun _ _ => trivial), BW.out⟩
def topo_Order.f (a0_0 : Int) (l0_1 : List Bool) (l0_2 : List (List S40)) (a1 : Int) : Option ((List Int) × Int) :=
 if 0 ≤ a1 ∧ a1 < l0_2.length then if (Rows1.rdr l0_2 a1).length ≤ 8796093021952 then some (match orderOf (Rows1.rdr l0_2 a1) with | some r => (r, 0) | none => ([], 1)) else none else some ([], 1)
theorem topo_Order.calls (a0_0 : Int) (A0_1 : Option Addr) (c0_1 : Nat) (l0_1 : List Bool) (A0_2 : Option Addr) (c0_2 : Nat) (l0_2 : List (List S40)) (a1 : Int) (r1 : List Int) (r2 : Int) (w : World) (hr0_1 : Kd.C Kd.bool w A0_1 l0_1.length l0_1) (hc0_1 : l0_1.length ≤ c0_1) (hr0_2 : Kd.C (Kd.slice 40 k40) w A0_2 l0_2.length l0_2) (hc0_2 : l0_2.length ≤ c0_2) (h : topo_Order.f a0_0 l0_1 l0_2 a1 = some (r1, r2)) :
 Calls Try.prog 14 #[.agg #[.int .u64 a0_0, .slice A0_1 l0_1.length c0_1, .slice A0_2 l0_2.length c0_2], .int .i64 a1] w fun e w' => ∃ v0_ : Value, e = .returned (.tuple #[v0_, .int .i64 r2]) ∧ Kd.R (Kd.int .i64) 3 w' w.heap.size (fun _ => True) v0_ r1 ∧ Below w.heap.size w w' := by
 unfold topo_Order.f at h
 split at h
 · rename_i hin
   split at h
   · rename_i hl
     refine (order_some a0_0 A0_1 c0_1 l0_1 A0_2 c0_2 l0_2 a1 w hin.1 hin.2 hr0_2 hl).mono ?_
     rintro e w' ⟨v0, r, n, rfl, ho, hR, hb⟩
     rcases ho.out with ⟨h1, h2⟩ | ⟨h1, h2, h3⟩
     · rw [h1] at h
       simp only [Option.some.injEq, Prod.mk.injEq] at h
       obtain ⟨rfl, rfl⟩ := h
       subst h2
       exact ⟨v0, rfl, hR, hb⟩
     · rw [h1] at h
       simp only [Option.some.injEq, Prod.mk.injEq] at h
       obtain ⟨rfl, rfl⟩ := h
       subst h2; subst h3
       exact ⟨v0, rfl, hR, hb⟩
   · cases h
 · rename_i hin
   simp only [Option.some.injEq, Prod.mk.injEq] at h
   obtain ⟨rfl, rfl⟩ := h
   refine (order_none a0_0 A0_1 c0_1 l0_1 A0_2 c0_2 l0_2 a1 w hin hr0_2.2.1).mono ?_
   rintro e w' ⟨rfl, hb⟩
   exact ⟨_, rfl, Kd.R_nil _ _ _ _ _, hb⟩
end Go.Proofs.Ytkkfpmgmicfkfaa.X
set_option linter.unusedVariables false
/- braidworkref19.add, told of what it reads. -/
namespace Go.Proofs.Ytkkfpmgmicfkfaa.X
open Go.RowKit Go.Proofs.YtkkfpmgmicfkfaaW.PrintWords Go.Proofs.YtkkfpmgmicfkfaaW.PrintLast Go.Proofs.YtkkfpmgmicfkfaaW.PrintMore Go.Proofs.Ytkkfpmgmicfkfaa
theorem add_snoc (a : List Int) (n x : Int) (h : ∃ y ∈ a, n < y) : TopoMath.add (a ++ [x]) n = TopoMath.add a n ++ [x] := by
 induction a with
 | nil => simp at h
 | cons z zs ih =>
  simp only [List.cons_append, TopoMath.add]
  split
  · rfl
  · split
    · rfl
    · rename_i h1 h2
      obtain ⟨y, hy, hn⟩ := h
      rw [List.mem_cons] at hy
      rcases hy with rfl | hy
      · exact absurd hn h1
      · rw [ih ⟨y, hy, hn⟩, List.cons_append]
theorem add_past (a b : List Int) (n : Int) (h : ∀ y ∈ a, y < n) : TopoMath.add (a ++ b) n = a ++ TopoMath.add b n := by
 induction a with
 | nil => rfl
 | cons z zs ih =>
  have hz := h z (by simp)
  simp only [List.cons_append, TopoMath.add]
  rw [if_neg (by omega), if_neg (by omega), ih (fun y hy => h y (by simp [hy]))]
/-- What add has laid when it has come to place i. -/
def AddAt (l : List Int) (n : Int) (i : Int) (p : Bool) (out : List Int) : Prop := (p = true ∧ (∃ y ∈ l.take i.toNat, n < y) ∧ out = TopoMath.add (l.take i.toNat) n) ∨ (p = false ∧ (∀ y ∈ l.take i.toNat, y < n) ∧ out = l.take i.toNat)
theorem take_snoc (l : List Int) (i : Int) (h0 : 0 ≤ i) (h1 : i < l.length) : l.take (i + 1).toNat = l.take i.toNat ++ [rd l i] := take_end 0 l i h0 h1
set_option maxHeartbeats 8000000 in
set_option maxRecDepth 100000 in
theorem ref_add (A : Option Addr) (c : Nat) (l : List Int) (n : Int) (w : World) (hl : Kd.C (Kd.int .i64) w A l.length l) (hc : l.length ≤ c) (hr : TopoMath.Rising l) (hlen : l.length ≤ 17592186044000) :
 Calls Try.prog 78 #[.slice A l.length c, .int .i64 n] w fun e w' => ∃ v' : Value, e = .returned v' ∧ Aside0 ((v' = .slice A l.length c ∧ TopoMath.add l n = l) ∨ Kd.R (Kd.int .i64) 3 w' w.heap.size (fun _ => True) v' (TopoMath.add l n)) ∧ Below w.heap.size w w' := by
 have hll := hl.2.1
 have HL := Aside0.mk hl
 have HC := Aside0.mk hc
 have HR := Aside0.mk hr
 clear hl hc hr
 go_enter Try.func78, Try.ntmps78
 go_wp2
 go_loopg [4, 5, 6, 7] l.length (fun gg v4 v5 v6 v7 W => ∃ (i : Int) (p : Bool) (out : List Int), 0 ≤ i ∧ i ≤ l.length ∧ l.length - i.toNat ≤ gg ∧ v7 = .int .i64 i ∧ v6 = .bool p ∧ Aside0 (Below w.heap.size w W) ∧ Aside0 (Kd.R (Kd.int .i64) 3 W w.heap.size (fun _ => True) v5 out) ∧ Aside0 (AddAt l n i p out) ∧ Aside0 (out.length ≤ i.toNat + 1))
 case atStart => exact ⟨0, false, [], by omega, by omega, by omega, rfl, rfl, ⟨Below.refl _ _⟩, ⟨Kd.R_nil _ _ _ _ _⟩, ⟨.inr ⟨rfl, by simp, by simp⟩⟩, ⟨by simp⟩⟩
 case round =>
  obtain ⟨i, p, out, h0, h1, hg, rfl, rfl, BW, RO, HA, HLA⟩ := hrel
  by_cases hlt : i < l.length
  · obtain ⟨ad, e, hxw⟩ := Kd.at_int HL.out i h0 hlt
    cases e
    have hx := pw_cell_below BW.out hxw
    have HT := Aside0.mk (take_snoc l i h0 hlt)
    generalize hy : rd l i = x at hx HT hxw
    have HXW := Aside0.mk hxw
    clear hxw
    have HY := Aside0.mk hy
    clear hy
    by_cases he : x = n
    · have he' : decide (x = n) = true := decide_eq_true he
      have HQ := Aside0.mk (show TopoMath.add l n = l by
       have hmem : n ∈ l := by
        rw [← he, ← HY.out]
        rw [show rd l i = l[i.toNat]'(by omega) by simp [rd, List.getD_eq_getElem?_getD, show i.toNat < l.length by omega]]
        exact List.getElem_mem _
       exact TopoMath.rising_ext (TopoMath.rising_add HR.out n) HR.out (fun y => by
        rw [TopoMath.mem_add]
        exact ⟨fun h => h.elim (fun e => by rw [e]; exact hmem) id, .inr⟩))
      subst he
      go_wp2
      go_ret
      exact ⟨_, rfl, ⟨.inl ⟨rfl, HQ.out⟩⟩, BW.out⟩
    · have he' : decide (x = n) = false := decide_eq_false he
      have he2 : (x == n) = false := beq_eq_false_iff_ne.2 he
      have HE := Aside0.mk he
      clear he
      cases p with
      | true =>
       go_wp2_with ((with_reducible refine gate_builtin (b := .append) (xs := #[.tmp 35, .tmp 40]) rfl ?_); at_builtin; go_loud (refine Kd.R_append (Kd.int .i64) (w0 := w) w.heap.size rfl (.tmp 35) (.tmp 40) 31 3 (.int .i64 0) 8 rfl Try.underlying31 info3 rfl (by decide) (by omega) u5 out (x) [.int .i64 (x)] (fun _ => True) (fun _ => False) rfl rfl ?aP (fun _ hk => hk.elim) ?aF ?aO ?aB ?aS ?aL ?_); (case aP => exact rfl); (case aF => exact fun _ _ => trivial); (case aO => exact RO.out); (case aB => exact BW.out); (case aS => exact below_size BW.out); (case aL => exact by have := HLA.out; omega); intro v2 w2 ho2 hb2 hg2' hat2; have RO2 := Aside0.mk ho2; have BW2 := Aside0.mk hb2; clear ho2 hb2 hg2' hat2)
       go_roundg (l.length - (i + 1).toNat)
       case measure => omega
       case rel => exact ⟨i + 1, true, out ++ [x], by omega, by omega, Nat.le_refl _, rfl, rfl, BW2, RO2, ⟨.inl (by
        rcases HA.out with ⟨_, ⟨y, hy, hny⟩, ho⟩ | ⟨h, _⟩
        · exact ⟨rfl, ⟨y, by rw [HT.out]; exact List.mem_append_left _ hy, hny⟩, by rw [HT.out, add_snoc _ _ _ ⟨y, hy, hny⟩, ho]⟩
        · cases h)⟩, ⟨by have := HLA.out; simp only [List.length_append, List.length_cons, List.length_nil]; omega⟩⟩
      | false =>
       by_cases hgt : n < x
       · have hgt' : decide (n < x) = true := decide_eq_true hgt
         have HGT := Aside0.mk hgt
         clear hgt
         have HLB := Aside0.mk (show out.length ≤ i.toNat by
          rcases HA.out with ⟨h, _⟩ | ⟨_, _, h⟩
          · cases h
          · rw [h, List.length_take]; omega)
         go_wp2_with (first | ((with_reducible refine gate_builtin (b := .append) (xs := #[.tmp 31, .tmp 33]) rfl ?_); at_builtin; go_loud (refine Kd.R_append (Kd.int .i64) (w0 := w) w.heap.size rfl (.tmp 31) (.tmp 33) 31 3 (.int .i64 0) 8 rfl Try.underlying31 info3 rfl (by decide) (by omega) u5 out (n) [.int .i64 (n)] (fun _ => True) (fun _ => False) rfl rfl ?aP (fun _ hk => hk.elim) ?aF ?aO ?aB ?aS ?aL ?_); (case aP => exact rfl); (case aF => exact fun _ _ => trivial); (case aO => exact RO.out); (case aB => exact BW.out); (case aS => exact below_size BW.out); (case aL => exact by have := HLA.out; omega); intro v2 w2 ho2 hb2 hg2' hat2; have RO2 := Aside0.mk ho2; have BW2 := Aside0.mk hb2; clear ho2 hb2 hg2' hat2; have hx2 := pw_cell_below BW2.out HXW.out) | ((with_reducible refine gate_builtin (b := .append) (xs := #[.tmp 35, .tmp 40]) rfl ?_); at_builtin; go_loud (refine Kd.R_append (Kd.int .i64) (w0 := w) w.heap.size rfl (.tmp 35) (.tmp 40) 31 3 (.int .i64 0) 8 rfl Try.underlying31 info3 rfl (by decide) (by omega) v2 (out ++ [n]) (x) [.int .i64 (x)] (fun _ => True) (fun _ => False) rfl rfl ?aP (fun _ hk => hk.elim) ?aF ?aO ?aB ?aS ?aL ?_); (case aP => exact rfl); (case aF => exact fun _ _ => trivial); (case aO => exact RO2.out); (case aB => exact BW2.out); (case aS => exact below_size BW2.out); (case aL => exact by have := HLB.out; simp only [List.length_append, List.length_cons, List.length_nil]; omega); intro v3 w3 ho3 hb3 hg3' hat3; have RO3 := Aside0.mk ho3; have BW3 := Aside0.mk hb3; clear ho3 hb3 hg3' hat3))
         go_roundg (l.length - (i + 1).toNat)
         case measure => omega
         case rel => exact ⟨i + 1, true, (out ++ [n]) ++ [x], by omega, by omega, Nat.le_refl _, rfl, rfl, BW3, RO3, ⟨.inl (by
          rcases HA.out with ⟨h, _⟩ | ⟨_, hlt', ho⟩
          · cases h
          · refine ⟨rfl, ⟨x, by rw [HT.out]; simp, HGT.out⟩, ?_⟩
            rw [HT.out, add_past _ _ _ hlt', ho]
            simp only [TopoMath.add, HGT.out, if_true, List.append_assoc, List.cons_append, List.nil_append])⟩, ⟨by have := HLB.out; simp only [List.length_append, List.length_cons, List.length_nil]; omega⟩⟩
       · have hgt' : decide (n < x) = false := decide_eq_false hgt
         have HGT := Aside0.mk (show x < n by have := HE.out; omega)
         have HLB := Aside0.mk (show out.length ≤ i.toNat by
          rcases HA.out with ⟨h, _⟩ | ⟨_, _, h⟩
          · cases h
          · rw [h, List.length_take]; omega)
         clear hgt
         go_wp2_with ((with_reducible refine gate_builtin (b := .append) (xs := #[.tmp 35, .tmp 40]) rfl ?_); at_builtin; go_loud (refine Kd.R_append (Kd.int .i64) (w0 := w) w.heap.size rfl (.tmp 35) (.tmp 40) 31 3 (.int .i64 0) 8 rfl Try.underlying31 info3 rfl (by decide) (by omega) u5 out (x) [.int .i64 (x)] (fun _ => True) (fun _ => False) rfl rfl ?aP (fun _ hk => hk.elim) ?aF ?aO ?aB ?aS ?aL ?_); (case aP => exact rfl); (case aF => exact fun _ _ => trivial); (case aO => exact RO.out); (case aB => exact BW.out); (case aS => exact below_size BW.out); (case aL => exact by have := HLA.out; omega); intro v2 w2 ho2 hb2 hg2' hat2; have RO2 := Aside0.mk ho2; have BW2 := Aside0.mk hb2; clear ho2 hb2 hg2' hat2)
         go_roundg (l.length - (i + 1).toNat)
         case measure => omega
         case rel => exact ⟨i + 1, false, out ++ [x], by omega, by omega, Nat.le_refl _, rfl, rfl, BW2, RO2, ⟨.inr (by
          rcases HA.out with ⟨h, _⟩ | ⟨_, hlt', ho⟩
          · cases h
          · refine ⟨rfl, fun y hy => ?_, by rw [HT.out, ho]⟩
            rw [HT.out, List.mem_append, List.mem_singleton] at hy
            rcases hy with hy | rfl
            · exact hlt' y hy
            · exact HGT.out)⟩, ⟨by have := HLB.out; simp only [List.length_append, List.length_cons, List.length_nil]; omega⟩⟩
  · have hi : i = l.length := by omega
    cases p with
    | true =>
     have HQ := Aside0.mk (show out = TopoMath.add l n by
      rcases HA.out with ⟨_, _, ho⟩ | ⟨h, _⟩
      · rwa [List.take_of_length_le (by omega)] at ho
      · cases h)
     obtain ⟨A5, c5, rfl⟩ := Kd.R_slice RO.out
     have HRD := Aside0.mk (Kd.R_reads' RO.out)
     clear hi HA
     go_wp2
     go_ret
     exact ⟨_, rfl, ⟨.inr (by rw [← HQ.out]; exact RO.out)⟩, BW.out⟩
    | false =>
     have HQ := Aside0.mk (show out ++ [n] = TopoMath.add l n by
      rcases HA.out with ⟨h, _⟩ | ⟨_, hlt', ho⟩
      · cases h
      · rw [List.take_of_length_le (by omega)] at ho hlt'
        have := add_past l [] n hlt'
        rw [List.append_nil] at this
        rw [this, ho]
        rfl)
     clear hi HA
     go_wp2_with ((with_reducible refine gate_builtin (b := .append) (xs := #[.tmp 44, .tmp 46]) rfl ?_); at_builtin; go_loud (refine Kd.R_append (Kd.int .i64) (w0 := w) w.heap.size rfl (.tmp 44) (.tmp 46) 31 3 (.int .i64 0) 8 rfl Try.underlying31 info3 rfl (by decide) (by omega) u5 out (n) [.int .i64 (n)] (fun _ => True) (fun _ => False) rfl rfl ?aP (fun _ hk => hk.elim) ?aF ?aO ?aB ?aS ?aL ?_); (case aP => exact rfl); (case aF => exact fun _ _ => trivial); (case aO => exact RO.out); (case aB => exact BW.out); (case aS => exact below_size BW.out); (case aL => exact by have := HLA.out; omega); intro v2 w2 ho2 hb2 hg2' hat2; have RO2 := Aside0.mk ho2; have BW2 := Aside0.mk hb2; clear ho2 hb2 hg2' hat2)
     obtain ⟨A5, c5, rfl⟩ := Kd.R_slice RO2.out
     have HRD := Aside0.mk (Kd.R_reads' RO2.out)
     go_ret
     exact ⟨_, rfl, ⟨.inr (by rw [← HQ.out]; exact RO2.out)⟩, BW2.out⟩
end Go.Proofs.Ytkkfpmgmicfkfaa.X
set_option linter.unusedVariables false
/- What the printed add, Next, Prev, Edge of the reference compute. -/
namespace Go.Proofs.Ytkkfpmgmicfkfaa.X
open Go.RowKit Go.Proofs.YtkkfpmgmicfkfaaW.PrintWords Go.Proofs.YtkkfpmgmicfkfaaW.PrintLast Go.Proofs.YtkkfpmgmicfkfaaW.PrintMore Go.Proofs.Ytkkfpmgmicfkfaa
theorem padd_l (l : List Int) (n : Int) (hr : TopoMath.Rising l) (hlen : l.length ≤ 17592186044000) (k : Nat) : ∀ (i : Int) (p : Bool) (out : List Int), 0 ≤ i → i ≤ l.length → l.length - i.toNat < k → AddAt l n i p out → out.length ≤ i.toNat + 1 → braidworkref19_add.l0 k l n out p i = some (TopoMath.add l n) := by
 induction k with
 | zero => intro i p out _ _ h; omega
 | succ k ih =>
  intro i p out h0 h1 hk HA hlo
  unfold braidworkref19_add.l0
  by_cases hi : i < l.length
  · rw [if_pos hi, if_pos h0, wrap_up i l.length h0 hi (by omega)]
    have HT := take_snoc l i h0 hi
    have hmem : rd l i ∈ l := by
     rw [show rd l i = l[i.toNat]'(by omega) by simp [rd, List.getD_eq_getElem?_getD, show i.toNat < l.length by omega]]
     exact List.getElem_mem _
    generalize hx : rd l i = x at HT hmem
    have hi1 : (i + 1).toNat = i.toNat + 1 := by omega
    by_cases he : x = n
    · rw [if_pos he]
      have HQ : TopoMath.add l n = l := TopoMath.rising_ext (TopoMath.rising_add hr n) hr (fun y => by
       rw [TopoMath.mem_add]
       exact ⟨fun h => h.elim (fun e => by rw [e, ← he]; exact hmem) id, .inr⟩)
      rw [HQ]
    · rw [if_neg he]
      cases p with
      | true =>
       rw [if_pos rfl, if_pos (by omega)]
       refine ih (i + 1) true (out ++ [x]) (by omega) (by omega) (by omega) (.inl ?_) (by simp only [List.length_append, List.length_cons, List.length_nil]; omega)
       rcases HA with ⟨_, ⟨y, hy, hny⟩, ho⟩ | ⟨h, _⟩
       · exact ⟨rfl, ⟨y, by rw [HT]; exact List.mem_append_left _ hy, hny⟩, by rw [HT, add_snoc _ _ _ ⟨y, hy, hny⟩, ho]⟩
       · cases h
      | false =>
       rw [if_neg (by simp)]
       have hlb : out.length ≤ i.toNat := by
        rcases HA with ⟨h, _⟩ | ⟨_, _, h⟩
        · cases h
        · rw [h, List.length_take]; omega
       rcases HA with ⟨h, _⟩ | ⟨_, hlt', ho⟩
       · cases h
       by_cases hgt : x > n
       · rw [if_pos hgt, if_pos (by omega), Option.bind_some, if_pos (by simp only [List.length_append, List.length_cons, List.length_nil]; omega)]
         refine ih (i + 1) true ((out ++ [n]) ++ [x]) (by omega) (by omega) (by omega) (.inl ⟨rfl, ⟨x, by rw [HT]; simp, hgt⟩, ?_⟩) (by simp only [List.length_append, List.length_cons, List.length_nil]; omega)
         rw [HT, add_past _ _ _ hlt', ho]
         simp only [TopoMath.add, show n < x from hgt, if_true, List.append_assoc, List.cons_append, List.nil_append]
       · rw [if_neg hgt, if_pos (by omega)]
         refine ih (i + 1) false (out ++ [x]) (by omega) (by omega) (by omega) (.inr ⟨rfl, fun y hy => ?_, by rw [HT, ho]⟩) (by simp only [List.length_append, List.length_cons, List.length_nil]; omega)
         rw [HT, List.mem_append, List.mem_singleton] at hy
         rcases hy with hy | rfl
         · exact hlt' y hy
         · omega
  · rw [if_neg hi]
    rcases HA with ⟨hp, _, ho⟩ | ⟨hp, hlt', ho⟩
    · rw [if_pos hp, ho, List.take_of_length_le (by omega)]
    · rw [List.take_of_length_le (by omega)] at ho hlt'
      have := add_past l [] n hlt'
      rw [List.append_nil] at this
      rw [if_neg (by rw [hp]; simp), if_pos (by omega), this, ho]
      rfl
theorem padd_eq (l : List Int) (n : Int) (hr : TopoMath.Rising l) (hlen : l.length ≤ 17592186044000) (k : Nat) (hk : l.length < k) : braidworkref19_add.f k l n = some (TopoMath.add l n) := by
 unfold braidworkref19_add.f
 exact padd_l l n hr hlen k 0 false [] (by omega) (by omega) (by simpa using hk) (.inr ⟨rfl, by simp, by simp⟩) (by simp)
theorem ref_edges_eq (ep : Int) (up : List Bool) (hops : List (List S40)) (flow : Int) : braidworkref19_edges.f ep up hops flow = some (edgesOf hops flow) := by
 unfold braidworkref19_edges.f edgesOf
 by_cases h0 : flow < 0
 · rw [if_pos h0, if_neg (by omega)]
 · rw [if_neg h0]
   by_cases h1 : flow ≥ (hops.length : Int)
   · rw [if_pos h1, if_neg (by omega)]
   · rw [if_neg h1, if_pos (by omega), if_pos (by omega), if_pos (by omega)]
     rfl
/-! ### The folds that the reference makes over a flow's edges -/
theorem pnext_l (l : List S40) (n : Int) (hlen : l.length ≤ 17592186043000) (k : Nat) : ∀ (i : Int) (acc : List Int), 0 ≤ i → i ≤ l.length → (l.length - i.toNat) + l.length + 1 < k → TopoMath.Rising acc → acc.length ≤ i.toNat →
 braidworkref19_Next.l0 k n acc l i = some ((((l.drop i.toNat).filter fun e => e.f0 == n).map (·.f1)).foldl TopoMath.add acc) := by
 induction k with
 | zero => intro i acc _ _ h; omega
 | succ k ih =>
  intro i acc h0 h1 hk hr ha
  unfold braidworkref19_Next.l0
  by_cases hi : i < l.length
  · have HD : l.drop i.toNat = rd_T40 l i :: l.drop (i + 1).toNat := drop_at z40 l i h0 hi
    rw [if_pos hi, if_pos h0, wrap_up i l.length h0 hi (by omega), HD]
    have hi1 : (i + 1).toNat = i.toNat + 1 := by omega
    generalize rd_T40 l i = x
    by_cases he : x.f0 = n
    · have hb : (x.f0 == n) = true := beq_iff_eq.2 he
      have hal := TopoMath.add_length_le acc x.f1
      rw [if_pos he, padd_eq acc x.f1 hr (by omega) k (by omega), Option.bind_some, ih (i + 1) _ (by omega) (by omega) (by omega) (TopoMath.rising_add hr x.f1) (by omega)]
      simp only [List.filter_cons, hb, if_true, List.map_cons, List.foldl_cons]
    · have hb : (x.f0 == n) = false := beq_eq_false_iff_ne.2 he
      rw [if_neg he, ih (i + 1) _ (by omega) (by omega) (by omega) hr (by omega)]
      simp only [List.filter_cons, hb, Bool.false_eq_true, if_false]
  · rw [if_neg hi, drop_end l i (by omega)]
    rfl
theorem pnext_eq (ep : Int) (up : List Bool) (hops : List (List S40)) (flow n : Int) (hlen : (edgesOf hops flow).length ≤ 17592186043000) (k : Nat) (hk : 2 * (edgesOf hops flow).length + 1 < k) : braidworkref19_Next.f k ep up hops flow n = some (nextOf (edgesOf hops flow) n) := by
 unfold braidworkref19_Next.f
 rw [ref_edges_eq, Option.bind_some, pnext_l _ n hlen k 0 [] (by omega) (by omega) (by simp; omega) List.Pairwise.nil (by simp)]
 rfl
theorem pprev_l (l : List S40) (n : Int) (hlen : l.length ≤ 17592186043000) (k : Nat) : ∀ (i : Int) (acc : List Int), 0 ≤ i → i ≤ l.length → (l.length - i.toNat) + l.length + 1 < k → TopoMath.Rising acc → acc.length ≤ i.toNat →
 braidworkref19_Prev.l0 k n acc l i = some ((((l.drop i.toNat).filter fun e => e.f1 == n).map (·.f0)).foldl TopoMath.add acc) := by
 induction k with
 | zero => intro i acc _ _ h; omega
 | succ k ih =>
  intro i acc h0 h1 hk hr ha
  unfold braidworkref19_Prev.l0
  by_cases hi : i < l.length
  · have HD : l.drop i.toNat = rd_T40 l i :: l.drop (i + 1).toNat := drop_at z40 l i h0 hi
    rw [if_pos hi, if_pos h0, wrap_up i l.length h0 hi (by omega), HD]
    have hi1 : (i + 1).toNat = i.toNat + 1 := by omega
    generalize rd_T40 l i = x
    by_cases he : x.f1 = n
    · have hb : (x.f1 == n) = true := beq_iff_eq.2 he
      have hal := TopoMath.add_length_le acc x.f0
      rw [if_pos he, padd_eq acc x.f0 hr (by omega) k (by omega), Option.bind_some, ih (i + 1) _ (by omega) (by omega) (by omega) (TopoMath.rising_add hr x.f0) (by omega)]
      simp only [List.filter_cons, hb, if_true, List.map_cons, List.foldl_cons]
    · have hb : (x.f1 == n) = false := beq_eq_false_iff_ne.2 he
      rw [if_neg he, ih (i + 1) _ (by omega) (by omega) (by omega) hr (by omega)]
      simp only [List.filter_cons, hb, Bool.false_eq_true, if_false]
  · rw [if_neg hi, drop_end l i (by omega)]
    rfl
theorem pprev_eq (ep : Int) (up : List Bool) (hops : List (List S40)) (flow n : Int) (hlen : (edgesOf hops flow).length ≤ 17592186043000) (k : Nat) (hk : 2 * (edgesOf hops flow).length + 1 < k) : braidworkref19_Prev.f k ep up hops flow n = some (prevOf (edgesOf hops flow) n) := by
 unfold braidworkref19_Prev.f
 rw [ref_edges_eq, Option.bind_some, pprev_l _ n hlen k 0 [] (by omega) (by omega) (by simp; omega) List.Pairwise.nil (by simp)]
 rfl
theorem nextOf_length (l : List S40) (n : Int) : (nextOf l n).length ≤ l.length := by
 have h := TopoMath.rise_length_le ((l.filter fun e => e.f0 == n).map (·.f1))
 rw [List.length_map] at h
 exact Nat.le_trans h (List.length_filter_le _ _)
theorem pedge_eq (ep : Int) (up : List Bool) (hops : List (List S40)) (flow a b : Int) (hlen : (edgesOf hops flow).length ≤ 17592186043000) (k : Nat) (hk : 2 * (edgesOf hops flow).length + 1 < k) : braidworkref19_Edge.f k ep up hops flow a b = some (decide ((⟨a, b⟩ : S40) ∈ edgesOf hops flow)) := by
 unfold braidworkref19_Edge.f
 have hl := nextOf_length (edgesOf hops flow) a
 rw [pnext_eq ep up hops flow a hlen k hk, Option.bind_some, has_eq _ b (by omega) k (by omega), Option.bind_some, Option.some.injEq, Bool.eq_iff_iff, List.contains_iff_mem, decide_eq_true_iff]
 refine (TopoMath.mem_next (fun e : S40 => e.f0) (fun e => e.f1)).trans ?_
 constructor
 · rintro ⟨e, he, h1, h2⟩
   cases e
   subst h1; subst h2
   exact he
 · intro h
   exact ⟨_, h, rfl, rfl⟩
end Go.Proofs.Ytkkfpmgmicfkfaa.X
set_option linter.unusedVariables false
/- braidworkref19.Reach. -/
namespace Go.Proofs.Ytkkfpmgmicfkfaa.X
open Go.RowKit Go.Proofs.YtkkfpmgmicfkfaaW.PrintWords Go.Proofs.YtkkfpmgmicfkfaaW.PrintLast Go.Proofs.YtkkfpmgmicfkfaaW.PrintMore Go.Proofs.Ytkkfpmgmicfkfaa
def reachOf (l : List S40) (n : Int) : List Int := TopoMath.reach (·.f0) (·.f1) l n
def pathOf (l : List S40) : Int → Int → Prop := TopoMath.Path (·.f0) (·.f1) l
/-- A list on the way to what is reached. -/
def OnWay (l : List S40) (n : Int) (x : List Int) : Prop := TopoMath.Rising x ∧ (∀ y ∈ nextOf l n, y ∈ x) ∧ (∀ y ∈ x, pathOf l n y)
theorem OnWay.length {l : List S40} {n : Int} {x : List Int} (h : OnWay l n x) : x.length ≤ l.length := by
 have := TopoMath.length_le_of_sub (TopoMath.rising_nodup h.1) (fun y hy => (h.2.2 y hy).mem)
 simpa using this
theorem OnWay.start (l : List S40) (n : Int) : OnWay l n (nextOf l n) := ⟨TopoMath.rising_next _ _ l n, fun y hy => hy, fun y hy => TopoMath.Path.one hy⟩
theorem OnWay.add {l : List S40} {n : Int} {x : List Int} (h : OnWay l n x) {y z : Int} (hy : y ∈ x) (hz : z ∈ nextOf l y) : OnWay l n (TopoMath.add x z) :=
 ⟨TopoMath.rising_add h.1 z, fun u hu => TopoMath.mem_add.2 (.inr (h.2.1 u hu)), fun u hu => by
  rcases TopoMath.mem_add.1 hu with rfl | hu
  · exact (h.2.2 y hy).trans (.one hz)
  · exact h.2.2 u hu⟩
theorem OnWay.done {l : List S40} {n : Int} {x : List Int} (h : OnWay l n x) (hc : ∀ y ∈ x, ∀ z ∈ nextOf l y, z ∈ x) : x = reachOf l n :=
 TopoMath.eq_reach _ _ h.1 (TopoMath.reach_char _ _ h.2.1 h.2.2 hc)
theorem mem_rd (l : List Int) (i : Int) (h0 : 0 ≤ i) (h1 : i < l.length) : rd l i ∈ l := by
 rw [show rd l i = l[i.toNat]'(by omega) by simp [rd, List.getD_eq_getElem?_getD, show i.toNat < l.length by omega]]
 exact List.getElem_mem _
set_option maxHeartbeats 8000000 in
set_option maxRecDepth 100000 in
theorem ref_reach (ep : Int) (A1 : Option Addr) (c1 : Nat) (up : List Bool) (A2 : Option Addr) (c2 : Nat) (hops : List (List S40)) (flow node : Int) (w : World)
 (hu : Kd.C Kd.bool w A1 up.length up) (hu1 : up.length ≤ c1) (hh : Kd.C (Kd.slice 40 k40) w A2 hops.length hops) (hh1 : hops.length ≤ c2) (hlen : (edgesOf hops flow).length ≤ 17592186042000) :
 Calls Try.prog 29 #[.agg #[.int .u64 ep, .slice A1 up.length c1, .slice A2 hops.length c2], .int .i64 flow, .int .i64 node] w fun e w' => ∃ v0 : Value, e = .returned v0 ∧ Kd.R (Kd.int .i64) 3 w' w.heap.size (fun _ => True) v0 (reachOf (edgesOf hops flow) node) ∧ Below w.heap.size w w' := by
 have hb : Below w.heap.size w (w.alloc (.cells #[.int .u64 ep, .slice A1 up.length c1, .slice A2 hops.length c2] 29)) := below_alloc (Below.refl _ _) _
 have HBX := Aside0.mk (blk_new w (.cells #[.int .u64 ep, .slice A1 up.length c1, .slice A2 hops.length c2] 29))
 have HB := Aside0.mk hb
 have HNX : Aside0 (∀ (n : Int) (W : World), Below w.heap.size w W → Calls Try.prog 25 #[.agg #[.int .u64 ep, .slice A1 up.length c1, .slice A2 hops.length c2], .int .i64 flow, .int .i64 n] W fun e w' => ∃ v0_ : Value, e = .returned v0_ ∧ Kd.R (Kd.int .i64) 3 w' W.heap.size (fun _ => True) v0_ (nextOf (edgesOf hops flow) n) ∧ Below W.heap.size W w') :=
  ⟨fun n W hW => braidworkref19_Next.calls (2 * (edgesOf hops flow).length + 2) ep A1 c1 up A2 c2 hops flow n _ W (Kd.C_below hu hW) hu1 (Kd.C_below hh hW) hh1 (pnext_eq ep up hops flow n (by omega) _ (by omega))⟩
 generalize edgesOf hops flow = E at hlen HNX ⊢
 have HLEN := Aside0.mk hlen
 clear hu hu1 hh hh1 hb hlen
 go_enter Try.func29, Try.ntmps29
 have hx0 : (w.alloc (.cells #[.int .u64 ep, .slice A1 up.length c1, .slice A2 hops.length c2] 29)).cell? ⟨w.heap.size, 0, none⟩ = some (.int .u64 ep) := (blk_cell HBX.out 0).trans rfl
 have hx1 : (w.alloc (.cells #[.int .u64 ep, .slice A1 up.length c1, .slice A2 hops.length c2] 29)).cell? ⟨w.heap.size, 1, none⟩ = some (.slice A1 up.length c1) := (blk_cell HBX.out 1).trans rfl
 have hx2 : (w.alloc (.cells #[.int .u64 ep, .slice A1 up.length c1, .slice A2 hops.length c2] 29)).cell? ⟨w.heap.size, 2, none⟩ = some (.slice A2 hops.length c2) := (blk_cell HBX.out 2).trans rfl
 go_wp2_with fail
 refine (HNX.out node _ HB.out).mono ?_
 rintro e w1 ⟨v1, rfl, hR1, hb1⟩
 have HB1 := Aside0.mk (below_then HB.out HB.out.size hb1)
 have HR1 := Aside0.mk (Kd.R_lower hR1 HB.out.size)
 have HX1 := Aside0.mk ((hb1.block _ (blk_lt HBX.out)).trans HBX.out)
 clear hb1 hR1 hx0 hx1 hx2 HB HBX
 go_wp2_with fail
 go_loopg [6, 7, 8, 9, 10, 11] E.length (fun gg v6 v7 v8 v9 v10 v11 W => ∃ lst : List Int, E.length - lst.length ≤ gg ∧ Aside0 (Below w.heap.size w W) ∧ Aside0 (W.heap[w.heap.size]? = some (.cells #[.int .u64 ep, .slice A1 up.length c1, .slice A2 hops.length c2] 29 (0, 0))) ∧ Aside0 (Kd.R (Kd.int .i64) 3 W w.heap.size (fun _ => True) v7 lst) ∧ Aside0 (OnWay E node lst))
 case atStart => exact ⟨_, Nat.sub_le _ _, HB1, HX1, HR1, ⟨OnWay.start E node⟩⟩
 case round =>
  clear HB1 HX1 HR1
  obtain ⟨lst, hg, BW, BX, RL, OW⟩ := hrel
  obtain ⟨Al, cl, rfl⟩ := Kd.R_slice RL.out
  have hll : lst.length ≤ 9223372036854775807 := (Kd.R_reads' RL.out).2.2.2.1
  obtain ⟨wo, rfl⟩ : ∃ wo : World, wo = wr := ⟨_, rfl⟩
  go_wp2
  go_loopg [8, 9, 10, 11] lst.length (fun gg v8 v9 v10 v11 W => ∃ (i : Int) (mo : List Int), 0 ≤ i ∧ i ≤ lst.length ∧ lst.length - i.toNat ≤ gg ∧ v9 = .int .i64 i ∧ Aside0 (Below wo.heap.size wo W) ∧ Aside0 (Kd.R (Kd.int .i64) 3 W w.heap.size (fun _ => True) v8 mo) ∧ Aside0 (OnWay E node mo ∧ (∀ y ∈ lst, y ∈ mo) ∧ ∀ y ∈ lst.take i.toNat, ∀ z ∈ nextOf E y, z ∈ mo))
  case atStart => exact ⟨0, lst, by omega, by omega, by omega, rfl, ⟨Below.refl _ _⟩, RL, ⟨OW.out, fun y hy => hy, by simp⟩⟩
  case round =>
   obtain ⟨i, mo, h0, h1, hgi, rfl, BO, RM, HM⟩ := hrel
   by_cases hi : i < lst.length
   · obtain ⟨ad, e, hx⟩ := Kd.at_int (Kd.R_reads' (Kd.R_below RL.out BO.out)).2.2 i h0 hi
     cases e
     have HT := Aside0.mk (take_snoc lst i h0 hi)
     have HMY := Aside0.mk (mem_rd lst i h0 hi)
     generalize hy : rd lst i = y at hx HT HMY
     clear hy
     have BX1 := Aside0.mk ((BO.out.block _ (blk_lt BX.out)).trans BX.out)
     have hx0 : wr.drew.cell? ⟨w.heap.size, 0, none⟩ = some (.int .u64 ep) := (blk_cell BX1.out 0).trans rfl
     have hx1 : wr.drew.cell? ⟨w.heap.size, 1, none⟩ = some (.slice A1 up.length c1) := (blk_cell BX1.out 1).trans rfl
     have hx2 : wr.drew.cell? ⟨w.heap.size, 2, none⟩ = some (.slice A2 hops.length c2) := (blk_cell BX1.out 2).trans rfl
     have hx : wr.drew.cell? _ = _ := hx
     have BWr := Aside0.mk (below_drew (below_then BW.out BW.out.size BO.out))
     have BOr : Aside0 (Below wo.heap.size wo wr.drew) := ⟨below_drew BO.out⟩
     have RMr := Aside0.mk (Kd.R_drew RM.out)
     go_wp2_with fail
     refine wp_region_still_tail 6 (by kernel_rfl) (by kernel_rfl) ?_
     change wpStill _ _ wr.drew _ _ _
     simp only [List.take_succ_cons, List.take_zero, List.drop_succ_cons, List.drop_zero]
     repeat still_step
     refine wpStill_nil ?_
     go_wp2_with fail
     refine (HNX.out y _ BWr.out).mono ?_
     rintro e w2 ⟨v2, rfl, hR2, hb2⟩
     obtain ⟨An, cn, rfl⟩ := Kd.R_slice hR2
     have RN := Aside0.mk hR2
     have BO2 := Aside0.mk (below_then BOr.out BOr.out.size hb2)
     have RM2 := Aside0.mk (Kd.R_below RMr.out hb2)
     have BW2 := Aside0.mk (below_then BWr.out BWr.out.size hb2)
     have hnl : (nextOf E y).length ≤ 9223372036854775807 := (Kd.R_reads' hR2).2.2.2.1
     clear hb2 hR2 hx0 hx1 hx2 hx BWr BOr RMr BX1 RM
     go_wp2_with fail
     generalize hnx : nextOf E y = nx at RN hnl ⊢
     have HNN := Aside0.mk hnx
     clear hnx
     go_loopg [8, 11] nx.length (fun gg v8 v11 W => ∃ (k : Int) (mo2 : List Int), 0 ≤ k ∧ k ≤ nx.length ∧ nx.length - k.toNat ≤ gg ∧ v11 = .int .i64 k ∧ Aside0 (Below w2.heap.size w2 W) ∧ Aside0 (Kd.R (Kd.int .i64) 3 W w.heap.size (fun _ => True) v8 mo2) ∧ Aside0 (OnWay E node mo2 ∧ (∀ y ∈ mo, y ∈ mo2) ∧ ∀ z ∈ nx.take k.toNat, z ∈ mo2))
     case atStart => exact ⟨0, mo, by omega, by omega, by omega, rfl, ⟨Below.refl _ _⟩, RM2, ⟨HM.out.1, fun y hy => hy, by simp⟩⟩
     case round =>
      obtain ⟨k, mo2, hk0, hk1, hgk, rfl, BI, RM3, HM3⟩ := hrel
      obtain ⟨Am, cm, rfl⟩ := Kd.R_slice RM3.out
      by_cases hk : k < nx.length
      · obtain ⟨ad2, e, hz⟩ := Kd.at_int (Kd.R_reads' (Kd.R_below RN.out BI.out)).2.2 k hk0 hk
        cases e
        have HT2 := Aside0.mk (take_snoc nx k hk0 hk)
        have HMZ := Aside0.mk (mem_rd nx k hk0 hk)
        generalize hzz : rd nx k = z at hz HT2 HMZ
        clear hzz
        have HRD := Aside0.mk (Kd.R_reads' RM3.out)
        have HLM := Aside0.mk (show mo2.length ≤ 17592186044000 by have := HM3.out.1.length; have := HLEN.out; omega)
        go_wp2_with fail
        refine (ref_add Am cm mo2 z wr HRD.out.2.2 HRD.out.2.1 HM3.out.1.1 HLM.out).mono ?_
        rintro e w3 ⟨v3, rfl, hv, hb3⟩
        have BI3 := Aside0.mk (below_then BI.out BI.out.size hb3)
        have RM4 : Aside0 (Kd.R (Kd.int .i64) 3 w3 w.heap.size (fun _ => True) v3 (TopoMath.add mo2 z)) := ⟨by
         rcases hv.out with ⟨e1, e2⟩ | h
         · rw [e1, e2]
           exact Kd.R_below RM3.out hb3
         · exact Kd.R_lower h (by have := BW2.out.size; have := BI.out.size; omega)⟩
        have HM4 := Aside0.mk (show OnWay E node (TopoMath.add mo2 z) ∧ (∀ y ∈ mo, y ∈ TopoMath.add mo2 z) ∧ ∀ u ∈ nx.take (k + 1).toNat, u ∈ TopoMath.add mo2 z from
         ⟨HM3.out.1.add (HM3.out.2.1 y (HM.out.2.1 y HMY.out)) (by rw [HNN.out]; exact HMZ.out), fun u hu => TopoMath.mem_add.2 (.inr (HM3.out.2.1 u hu)), fun u hu => by
          rw [HT2.out, List.mem_append, List.mem_singleton] at hu
          rcases hu with hu | rfl
          · exact TopoMath.mem_add.2 (.inr (HM3.out.2.2 u hu))
          · exact TopoMath.mem_add.2 (.inl rfl)⟩)
        clear hb3 hv hz HRD HLM
        go_wp2
        go_roundg (nx.length - (k + 1).toNat)
        case measure => omega
        case rel => exact ⟨k + 1, _, by omega, by omega, Nat.le_refl _, rfl, BI3, RM4, HM4⟩
      · have BO3 := Aside0.mk (below_then BO2.out BO2.out.size BI.out)
        have HM4 := Aside0.mk (show OnWay E node mo2 ∧ (∀ y ∈ lst, y ∈ mo2) ∧ ∀ y ∈ lst.take (i + 1).toNat, ∀ z ∈ nextOf E y, z ∈ mo2 from
         ⟨HM3.out.1, fun u hu => HM3.out.2.1 u (HM.out.2.1 u hu), fun u hu z hz => by
          rw [HT.out, List.mem_append, List.mem_singleton] at hu
          rcases hu with hu | rfl
          · exact HM3.out.2.1 z (HM.out.2.2 u hu z hz)
          · have := HM3.out.2.2
            rw [List.take_of_length_le (by omega)] at this
            rw [HNN.out] at hz
            exact this z hz⟩)
        go_wp2
        go_roundg (lst.length - (i + 1).toNat)
        case measure => omega
        case rel => exact ⟨i + 1, _, by omega, by omega, Nat.le_refl _, rfl, BO3, RM3, HM4⟩
   · obtain ⟨Am, cm, rfl⟩ := Kd.R_slice RM.out
     have HC := Aside0.mk (show ∀ y ∈ lst, ∀ z ∈ nextOf E y, z ∈ mo by
      have := HM.out.2.2
      rwa [List.take_of_length_le (by omega)] at this)
     have HLE := Aside0.mk (TopoMath.length_le_of_sub (TopoMath.rising_nodup OW.out.1) HM.out.2.1)
     have BW2 := Aside0.mk (below_then BW.out BW.out.size BO.out)
     by_cases hq : (mo.length : Int) = (lst.length : Int)
     · have HQ := Aside0.mk (show lst = reachOf E node by
        have he := TopoMath.rising_eq_of_sub OW.out.1 HM.out.1.1 HM.out.2.1 (by omega)
        refine OW.out.done (fun y hy z hz => ?_)
        rw [he]
        exact HC.out y hy z hz)
       have RL2 := Aside0.mk (Kd.R_below RL.out BO.out)
       have hq1 : decide ((mo.length : Int) = (lst.length : Int)) = true := decide_eq_true hq
       have hq := Aside0.mk hq
       go_wp2
       go_ret
       exact ⟨_, rfl, by rw [← HQ.out]; exact RL2.out, BW2.out⟩
     · have hq1 : decide ((mo.length : Int) = (lst.length : Int)) = false := decide_eq_false hq
       have hq2 : ((mo.length : Int) == (lst.length : Int)) = false := beq_eq_false_iff_ne.2 hq
       have HML := Aside0.mk (HM.out.1.length)
       have HQ := Aside0.mk hq
       have BX2 := Aside0.mk ((BO.out.block _ (blk_lt BX.out)).trans BX.out)
       have HO := Aside0.mk HM.out.1
       clear hq HM HC
       go_wp2
       go_roundg (E.length - mo.length)
       case measure => have := HQ.out; have := HLE.out; have := HML.out; omega
       case rel => exact ⟨mo, Nat.le_refl _, BW2, BX2, RM, HO⟩
end Go.Proofs.Ytkkfpmgmicfkfaa.X
set_option linter.unusedVariables false
/- The reference's order, in plain Lean: what its loops keep. -/
namespace Go.Proofs.Ytkkfpmgmicfkfaa.X
open Go.RowKit Go.Proofs.YtkkfpmgmicfkfaaW.PrintWords Go.Proofs.YtkkfpmgmicfkfaaW.PrintLast Go.Proofs.YtkkfpmgmicfkfaaW.PrintMore Go.Proofs.Ytkkfpmgmicfkfaa
def leftOf (all out : List Int) : List Int := all.filter fun x => !out.contains x
/-- All that comes before n has come. -/
def allIn (l : List S40) (out : List Int) (n : Int) : Bool := (prevOf l n).all fun p => out.contains p
theorem mem_prevOf {l : List S40} {n p : Int} : p ∈ prevOf l n ↔ ∃ e ∈ l, e.f1 = n ∧ e.f0 = p := TopoMath.mem_next (fun e : S40 => e.f1) (fun e => e.f0)
theorem ready_allIn (l : List S40) (out : List Int) (n : Int) : readyOf l (leftOf (nodesOf l) out) n = allIn l out n := by
 rw [Bool.eq_iff_iff]
 unfold readyOf TopoMath.ready allIn
 rw [Bool.not_eq_true', List.any_eq_false, List.all_eq_true]
 constructor
 · intro h p hp
   obtain ⟨e, he, h1, h2⟩ := mem_prevOf.1 hp
   have := h e he
   rw [List.contains_iff_mem]
   by_cases hc : p ∈ out
   · exact hc
   · exfalso
     apply this
     rw [Bool.and_eq_true, beq_iff_eq, List.contains_iff_mem]
     refine ⟨h1, List.mem_filter.2 ⟨(TopoMath.mem_nodes _ _).2 (.inl ⟨e, he, rfl⟩), ?_⟩⟩
     show (!out.contains e.f0) = true
     rw [h2]
     simp [hc]
 · intro h e he hc
   rw [Bool.and_eq_true, beq_iff_eq, List.contains_iff_mem] at hc
   have h1 := h e.f0 (mem_prevOf.2 ⟨e, he, hc.1, rfl⟩)
   have h2 : (!out.contains e.f0) = true := (List.mem_filter.1 hc.2).2
   rw [h1] at h2
   cases h2
theorem leftOf_erase {all out : List Int} {x : Int} (hn : all.Nodup) : leftOf all (out ++ [x]) = (leftOf all out).erase x := by
 unfold leftOf
 rw [List.Nodup.erase_eq_filter (hn.filter _), List.filter_filter]
 congr 1
 funext y
 by_cases h : y = x
 · subst h
   simp
 · simp [h, Ne.symm h]
theorem kahn_take (l : List S40) {left out : List Int} {x : Int} (hf : left.find? (readyOf l left) = some x) : kahnOf l (left.erase x).length (left.erase x) (out ++ [x]) = kahnOf l left.length left out := by
 have hx := List.mem_of_find?_eq_some hf
 have hlen : left.length = (left.erase x).length + 1 := by
  rw [List.length_erase_of_mem hx]
  have := List.length_pos_of_mem hx
  omega
 have hne : left ≠ [] := List.ne_nil_of_mem hx
 rw [hlen]
 unfold kahnOf
 conv => rhs; unfold TopoMath.kahn
 rw [if_neg hne, show left.find? (TopoMath.ready (·.f0) (·.f1) l left) = some x from hf]
/-- The next one: the first that has not come and before which all has come. -/
theorem order_step (l : List S40) (out : List Int) (i : Int) (h0 : 0 ≤ i) (h1 : i < (nodesOf l).length) (ha : ∀ y ∈ (nodesOf l).take i.toNat, out.contains y = true ∨ allIn l out y = false) (hx : out.contains (rd (nodesOf l) i) = false) (hr : allIn l out (rd (nodesOf l) i) = true)
 (hk : kahnOf l (leftOf (nodesOf l) out).length (leftOf (nodesOf l) out) out = orderOf l) : kahnOf l (leftOf (nodesOf l) (out ++ [rd (nodesOf l) i])).length (leftOf (nodesOf l) (out ++ [rd (nodesOf l) i])) (out ++ [rd (nodesOf l) i]) = orderOf l := by
 have hn : (nodesOf l).Nodup := TopoMath.rising_nodup (TopoMath.rising_nodes _ _ l)
 rw [leftOf_erase hn, kahn_take l ?_, hk]
 have hs : nodesOf l = (nodesOf l).take i.toNat ++ rd (nodesOf l) i :: (nodesOf l).drop (i.toNat + 1) := split_at _ i h0 h1
 have hfun : readyOf l (leftOf (nodesOf l) out) = allIn l out := by funext y; exact ready_allIn l out y
 rw [hfun]
 unfold leftOf
 rw [List.find?_filter]
 generalize hz : rd (nodesOf l) i = x at hs hx hr
 rw [hs, List.find?_append, List.find?_eq_none.2 (fun y hy => by
  rcases ha y hy with h | h
  · rw [h]; simp
  · rw [h]; simp), Option.none_or, List.find?_cons_of_pos (by rw [hx, hr]; rfl)]
theorem order_end (l : List S40) (out : List Int) (hk : kahnOf l (leftOf (nodesOf l) out).length (leftOf (nodesOf l) out) out = orderOf l) (hl : leftOf (nodesOf l) out = []) : orderOf l = some out := by
 rw [← hk, hl]
 simp [kahnOf, TopoMath.kahn]
/-- Where nothing leads back to itself, one is always ready. -/
theorem order_on (l : List S40) (out : List Int) (hc : ∀ n ∈ nodesOf l, n ∉ reachOf l n) (hl : leftOf (nodesOf l) out ≠ []) : ∃ y ∈ nodesOf l, out.contains y = false ∧ allIn l out y = true := by
 cases hf : (leftOf (nodesOf l) out).find? (readyOf l (leftOf (nodesOf l) out)) with
 | none =>
  obtain ⟨n, hn, hp⟩ := TopoMath.find_none _ _ hl hf
  exact absurd ((TopoMath.mem_reach _ _).2 hp) (hc n (List.mem_filter.1 hn).1)
 | some x =>
  have h1 := List.mem_filter.1 (List.mem_of_find?_eq_some hf)
  refine ⟨x, h1.1, by simpa using h1.2, ?_⟩
  rw [← ready_allIn]
  exact List.find?_some hf
end Go.Proofs.Ytkkfpmgmicfkfaa.X
set_option linter.unusedVariables false
/- braidworkref19.Order. -/
namespace Go.Proofs.Ytkkfpmgmicfkfaa.X
open Go.RowKit Go.Proofs.YtkkfpmgmicfkfaaW.PrintWords Go.Proofs.YtkkfpmgmicfkfaaW.PrintLast Go.Proofs.YtkkfpmgmicfkfaaW.PrintMore Go.Proofs.Ytkkfpmgmicfkfaa
def addTwo (acc : List Int) (e : S40) : List Int := TopoMath.add (TopoMath.add acc e.f0) e.f1
def bothOf (l : List S40) : List Int := l.foldl addTwo []
theorem bothOf_mem (l : List S40) : TopoMath.Rising (bothOf l) ∧ ∀ x, x ∈ bothOf l ↔ (∃ e ∈ l, e.f0 = x) ∨ ∃ e ∈ l, e.f1 = x := by
 suffices h : ∀ (l : List S40) (acc : List Int), TopoMath.Rising acc → TopoMath.Rising (l.foldl addTwo acc) ∧ ∀ x, x ∈ l.foldl addTwo acc ↔ x ∈ acc ∨ (∃ e ∈ l, e.f0 = x) ∨ ∃ e ∈ l, e.f1 = x by
  have := h l [] List.Pairwise.nil
  exact ⟨this.1, fun x => by rw [bothOf, this.2]; simp⟩
 intro l
 induction l with
 | nil => intro acc h; exact ⟨h, fun x => by simp⟩
 | cons e r ih =>
  intro acc h
  have h2 := ih (addTwo acc e) (TopoMath.rising_add (TopoMath.rising_add h e.f0) e.f1)
  refine ⟨h2.1, fun x => ?_⟩
  rw [List.foldl_cons, h2.2, addTwo, TopoMath.mem_add, TopoMath.mem_add]
  simp only [List.mem_cons, exists_eq_or_imp]
  constructor
  · rintro ((h | h | h) | h | h)
    · exact .inr (.inr (.inl h.symm))
    · exact .inr (.inl (.inl h.symm))
    · exact .inl h
    · exact .inr (.inl (.inr h))
    · exact .inr (.inr (.inr h))
  · rintro (h | (h | h) | (h | h))
    · exact .inl (.inr (.inr h))
    · exact .inl (.inr (.inl h.symm))
    · exact .inr (.inl h)
    · exact .inl (.inl h.symm)
    · exact .inr (.inr h)
theorem bothOf_eq (l : List S40) : bothOf l = nodesOf l :=
 TopoMath.rising_ext (bothOf_mem l).1 (TopoMath.rising_nodes _ _ l) (fun x => by rw [(bothOf_mem l).2]; exact (TopoMath.mem_nodes _ _).symm)
theorem addTwo_rising {l : List S40} : TopoMath.Rising (l.foldl addTwo []) := (bothOf_mem l).1
theorem bothOf_length (l : List S40) : (l.foldl addTwo []).length ≤ 2 * l.length := by
 have h : bothOf l = nodesOf l := bothOf_eq l
 have := TopoMath.nodes_length_le (E := S40) (fun x => x.f0) (fun x => x.f1) l
 show (bothOf l).length ≤ _
 rw [h]
 exact this
/-- The reference's edges, told of what is read. -/
theorem ref_edges (ep : Int) (A1 : Option Addr) (c1 : Nat) (up : List Bool) (A2 : Option Addr) (c2 : Nat) (hops : List (List S40)) (flow : Int) (w : World) (h0 : 0 ≤ flow) (h1 : flow < hops.length)
 (hh : Kd.C (Kd.slice 40 k40) w A2 hops.length hops) :
 Calls Try.prog 77 #[.agg #[.int .u64 ep, .slice A1 up.length c1, .slice A2 hops.length c2], .int .i64 flow] w fun e w' => ∃ A c, e = .returned (.slice A (Rows1.rdr hops flow).length c) ∧ (Rows1.rdr hops flow).length ≤ c ∧ Kd.C k40 w' A (Rows1.rdr hops flow).length (Rows1.rdr hops flow) ∧ Below w.heap.size w w' := by
 have hl := hh.2.1
 obtain ⟨ad, A, c, eA, hx0, hle, hC⟩ := Rows1.at_rows hh flow h0 h1
 cases eA
 have hb : Below w.heap.size w (w.alloc (.cells #[.int .u64 ep, .slice A1 up.length c1, .slice (some ad) hops.length c2] 29)) := below_alloc (Below.refl _ _) _
 have hx := pw_cell_below hb hx0
 have HC := Aside0.mk (Kd.C_below hC hb)
 have HLE := Aside0.mk hle
 have HB := Aside0.mk hb
 have hd1 : decide (flow < 0) = false := decide_eq_false (by omega)
 have hd2 : decide ((hops.length : Int) ≤ flow) = false := decide_eq_false (by omega)
 clear hh hC hle hb hx0
 go_enter Try.func77, Try.ntmps77
 go_wp2
 go_ret
 exact ⟨A, c, rfl, HLE.out, HC.out, HB.out⟩
end Go.Proofs.Ytkkfpmgmicfkfaa.X
set_option linter.unusedVariables false
/- braidworkref19.Order: its walk. -/
namespace Go.Proofs.Ytkkfpmgmicfkfaa.X
open Go.RowKit Go.Proofs.YtkkfpmgmicfkfaaW.PrintWords Go.Proofs.YtkkfpmgmicfkfaaW.PrintLast Go.Proofs.YtkkfpmgmicfkfaaW.PrintMore Go.Proofs.Ytkkfpmgmicfkfaa
theorem add_ret {n0 : Nat} {w0 w w' : World} {A : Option Addr} {c : Nat} {l : List Int} {n : Int} {v' : Value} (hv : (v' = .slice A l.length c ∧ TopoMath.add l n = l) ∨ Kd.R (Kd.int .i64) 3 w' w.heap.size (fun _ => True) v' (TopoMath.add l n))
 (hr : Kd.R (Kd.int .i64) 3 w n0 (fun _ => True) (.slice A l.length c) l) (hb : Below w.heap.size w w') (hn : n0 ≤ w.heap.size) : Kd.R (Kd.int .i64) 3 w' n0 (fun _ => True) v' (TopoMath.add l n) := by
 rcases hv with ⟨e1, e2⟩ | h
 · rw [e1, e2]
   exact Kd.R_below hr hb
 · exact Kd.R_lower h hn
set_option maxHeartbeats 8000000 in
set_option maxRecDepth 100000 in
theorem ref_order_some (ep : Int) (A1 : Option Addr) (c1 : Nat) (up : List Bool) (A2 : Option Addr) (c2 : Nat) (hops : List (List S40)) (flow : Int) (w : World) (h0 : 0 ≤ flow) (h1 : flow < hops.length)
 (hu : Kd.C Kd.bool w A1 up.length up) (hu1 : up.length ≤ c1) (hh : Kd.C (Kd.slice 40 k40) w A2 hops.length hops) (hh1 : hops.length ≤ c2) (hlen : (Rows1.rdr hops flow).length ≤ 1000000) :
 Calls Try.prog 15 #[.agg #[.int .u64 ep, .slice A1 up.length c1, .slice A2 hops.length c2], .int .i64 flow] w fun e w' => ∃ v0 r n, e = .returned (.tuple #[v0, .int .i64 n]) ∧ Aside0 ((orderOf (Rows1.rdr hops flow) = some r ∧ n = 0) ∨ (orderOf (Rows1.rdr hops flow) = none ∧ r = [] ∧ n = 1)) ∧ Kd.R (Kd.int .i64) 3 w' w.heap.size (fun _ => True) v0 r ∧ Below w.heap.size w w' := by
 have hl := hh.2.1
 have hb : Below w.heap.size w (w.alloc (.cells #[.int .u64 ep, .slice A1 up.length c1, .slice A2 hops.length c2] 29)) := below_alloc (Below.refl _ _) _
 have HBX := Aside0.mk (blk_new w (.cells #[.int .u64 ep, .slice A1 up.length c1, .slice A2 hops.length c2] 29))
 have HB := Aside0.mk hb
 have HN : edgesOf hops flow = Rows1.rdr hops flow := by unfold edgesOf; rw [if_pos ⟨h0, h1⟩]
 have HPV : Aside0 (∀ (n : Int) (W : World), Below w.heap.size w W → Calls Try.prog 27 #[.agg #[.int .u64 ep, .slice A1 up.length c1, .slice A2 hops.length c2], .int .i64 flow, .int .i64 n] W fun e w' => ∃ v0_ : Value, e = .returned v0_ ∧ Kd.R (Kd.int .i64) 3 w' W.heap.size (fun _ => True) v0_ (prevOf (Rows1.rdr hops flow) n) ∧ Below W.heap.size W w') :=
  ⟨fun n W hW => by
   rw [← HN]
   exact braidworkref19_Prev.calls (2 * (edgesOf hops flow).length + 2) ep A1 c1 up A2 c2 hops flow n _ W (Kd.C_below hu hW) hu1 (Kd.C_below hh hW) hh1 (pprev_eq ep up hops flow n (by rw [HN]; omega) _ (by omega))⟩
 have HRE : Aside0 (∀ (n : Int) (W : World), Below w.heap.size w W → Calls Try.prog 29 #[.agg #[.int .u64 ep, .slice A1 up.length c1, .slice A2 hops.length c2], .int .i64 flow, .int .i64 n] W fun e w' => ∃ v0 : Value, e = .returned v0 ∧ Kd.R (Kd.int .i64) 3 w' W.heap.size (fun _ => True) v0 (reachOf (Rows1.rdr hops flow) n) ∧ Below W.heap.size W w') :=
  ⟨fun n W hW => by
   rw [← HN]
   exact ref_reach ep A1 c1 up A2 c2 hops flow n W (Kd.C_below hu hW) hu1 (Kd.C_below hh hW) hh1 (by rw [HN]; omega)⟩
 have HED : Aside0 (∀ (W : World), Below w.heap.size w W → Calls Try.prog 77 #[.agg #[.int .u64 ep, .slice A1 up.length c1, .slice A2 hops.length c2], .int .i64 flow] W fun e w' => ∃ A c, e = .returned (.slice A (Rows1.rdr hops flow).length c) ∧ (Rows1.rdr hops flow).length ≤ c ∧ Kd.C k40 w' A (Rows1.rdr hops flow).length (Rows1.rdr hops flow) ∧ Below W.heap.size W w') :=
  ⟨fun W hW => ref_edges ep A1 c1 up A2 c2 hops flow W h0 h1 (Kd.C_below hh hW)⟩
 generalize Rows1.rdr hops flow = E at hlen HPV HRE HED ⊢
 have HLEN := Aside0.mk hlen
 have hd1 : decide (flow < 0) = false := decide_eq_false (by omega)
 have hd2 : decide ((hops.length : Int) ≤ flow) = false := decide_eq_false (by omega)
 clear hu hu1 hh hh1 hb hlen HN
 go_enter Try.func15, Try.ntmps15
 have hx0 : (w.alloc (.cells #[.int .u64 ep, .slice A1 up.length c1, .slice A2 hops.length c2] 29)).cell? ⟨w.heap.size, 0, none⟩ = some (.int .u64 ep) := (blk_cell HBX.out 0).trans rfl
 have hx1 : (w.alloc (.cells #[.int .u64 ep, .slice A1 up.length c1, .slice A2 hops.length c2] 29)).cell? ⟨w.heap.size, 1, none⟩ = some (.slice A1 up.length c1) := (blk_cell HBX.out 1).trans rfl
 have hx2 : (w.alloc (.cells #[.int .u64 ep, .slice A1 up.length c1, .slice A2 hops.length c2] 29)).cell? ⟨w.heap.size, 2, none⟩ = some (.slice A2 hops.length c2) := (blk_cell HBX.out 2).trans rfl
 go_wp2_with fail
 refine (HED.out _ HB.out).mono ?_
 rintro e w1 ⟨AE, cE, rfl, hcE, hCE, hb1⟩
 have HB1 := Aside0.mk (below_then HB.out HB.out.size hb1)
 have HX1 := Aside0.mk ((hb1.block _ (blk_lt HBX.out)).trans HBX.out)
 have HE := Aside0.mk hCE
 have hEl : E.length ≤ 9223372036854775807 := hCE.2.1
 clear hb1 hcE hCE hx0 hx1 hx2 HB HBX hd1 hd2
 go_wp2
 go_loopg [6, 8] E.length (fun gg v6 v8 W => ∃ i : Int, 0 ≤ i ∧ i ≤ E.length ∧ E.length - i.toNat ≤ gg ∧ v8 = .int .i64 i ∧ Aside0 (Below w1.heap.size w1 W) ∧ Aside0 (Kd.R (Kd.int .i64) 3 W w.heap.size (fun _ => True) v6 ((E.take i.toNat).foldl addTwo [])))
 case atStart => exact ⟨0, by omega, by omega, by omega, rfl, ⟨Below.refl _ _⟩, ⟨Kd.R_nil _ _ _ _ _⟩⟩
 case round =>
  obtain ⟨i, hi0, hi1, hg, rfl, BW, RA⟩ := hrel
  by_cases hi : i < E.length
  · obtain ⟨ad, e, hx0, hx1⟩ := at_T40 (Kd.C_below HE.out BW.out) i hi0 hi
    cases e
    have HT := Aside0.mk (take_end z40 E i hi0 hi)
    have HT : Aside0 (E.take (i + 1).toNat = E.take i.toNat ++ [rd_T40 E i]) := HT
    have HRI := Aside0.mk (addTwo_rising (l := E.take i.toNat))
    have HLE := Aside0.mk (show ((E.take i.toNat).foldl addTwo []).length ≤ 2000000 by have h1 := bothOf_length (E.take i.toNat); have h2 := HLEN.out; rw [List.length_take] at h1; omega)
    generalize hacc : (E.take i.toNat).foldl addTwo [] = acc at RA HRI HLE
    have HACC := Aside0.mk hacc
    clear hacc
    generalize hy : rd_T40 E i = x at hx0 hx1 HT
    clear hy
    obtain ⟨Aa, ca, rfl⟩ := Kd.R_slice RA.out
    have HRD := Aside0.mk (Kd.R_reads' RA.out)
    go_wp2_with fail
    go_region_held3 (fun W => W.cell? (ad.add (i.toNat * 2)) = some (.int .i64 x.f0) ∧ W.cell? ⟨(ad.add (i.toNat * 2)).block, (ad.add (i.toNat * 2)).off + 1, none⟩ = some (.int .i64 x.f1))
     (first
      | exact ⟨hx0, hx1⟩
      | exact ⟨pw_cell_below hb4 (pw_cell_below hb3 (show wr.drew.cell? _ = _ from hx0)), pw_cell_below hb4 (pw_cell_below hb3 (show wr.drew.cell? _ = _ from hx1))⟩
      | exact ⟨pw_cell_below hb3 (show wr.drew.cell? _ = _ from hx0), pw_cell_below hb3 (show wr.drew.cell? _ = _ from hx1)⟩)
     (first
      | (go_at_call 78; refine (ref_add A3 c3 (TopoMath.add acc x.f0) x.f1 _ HR3.out.2.2 HR3.out.2.1 (TopoMath.rising_add HRI.out _) (by have h1 := TopoMath.add_length_le acc x.f0; have := HLE.out; omega)).mono ?_; rintro e w4 ⟨v4, rfl, hv4, hb4⟩)
      | (go_at_call 78; refine (ref_add Aa ca acc x.f0 _ (Kd.C_below HRD.out.2.2 (below_drew (Below.refl _ _))) HRD.out.2.1 HRI.out (by have := HLE.out; omega)).mono ?_; rintro e w3 ⟨v3, rfl, hv3, hb3⟩; have hr3 := add_ret (w0 := w) hv3.out (Kd.R_drew RA.out) hb3 (Nat.le_trans HB1.out.size BW.out.size); obtain ⟨A3, c3, rfl⟩ := Kd.R_slice hr3; have HR3 := Aside0.mk (Kd.R_reads' hr3)))
    have hr4 := Aside0.mk (add_ret (w0 := w) hv4.out hr3 hb4 (Nat.le_trans HB1.out.size (Nat.le_trans BW.out.size hb3.size)))
    have BW4 := Aside0.mk (below_then (below_then (below_drew BW.out) (below_drew BW.out).size hb3) (below_then (below_drew BW.out) (below_drew BW.out).size hb3).size hb4)
    have HF := Aside0.mk (show (E.take (i + 1).toNat).foldl addTwo [] = TopoMath.add (TopoMath.add acc x.f0) x.f1 by rw [HT.out, List.foldl_append, HACC.out]; rfl)
    clear hr3 hb3 hb4 hv3 hv4 HR3 hx0 hx1
    have hwr : IntKind.i64.wrap (i + 1) = i + 1 := IntWalk.i64_in _ (by omega)
    go_wp2
    go_roundg (E.length - (i + 1).toNat)
    case measure => omega
    case rel => exact ⟨i + 1, by omega, by omega, Nat.le_refl _, rfl, BW4, ⟨by rw [HF.out]; exact hr4.out⟩⟩
  · have HAL := Aside0.mk (show (E.take i.toNat).foldl addTwo [] = nodesOf E by rw [List.take_of_length_le (by omega)]; exact bothOf_eq E)
    rw [HAL.out] at RA
    have HBw := Aside0.mk (below_then HB1.out HB1.out.size BW.out)
    have HXw := Aside0.mk ((BW.out.block _ (blk_lt HX1.out)).trans HX1.out)
    have HNL := Aside0.mk (show (nodesOf E).length ≤ 2000000 by have h1 := TopoMath.nodes_length_le (E := S40) (fun x => x.f0) (fun x => x.f1) E; have h2 := HLEN.out; show (TopoMath.nodes (fun x => x.f0) (fun x => x.f1) E).length ≤ _; omega)
    obtain ⟨Aa, ca, rfl⟩ := Kd.R_slice RA.out
    have hal : (nodesOf E).length ≤ 9223372036854775807 := (Kd.R_reads' RA.out).2.2.2.1
    obtain ⟨wo, rfl⟩ : ∃ wo : World, wo = wr := ⟨_, rfl⟩
    clear HAL
    go_wp2
    go_loopg [4, 5, 9] (nodesOf E).length (fun gg v4 v5 v9 W => ∃ j : Int, 0 ≤ j ∧ j ≤ (nodesOf E).length ∧ (nodesOf E).length - j.toNat ≤ gg ∧ v9 = .int .i64 j ∧ Aside0 (Below wo.heap.size wo W) ∧ Aside0 (∀ y ∈ (nodesOf E).take j.toNat, y ∉ reachOf E y))
    case atStart => exact ⟨0, by omega, by omega, by omega, rfl, ⟨Below.refl _ _⟩, ⟨by simp⟩⟩
    case round =>
     obtain ⟨j, hj0, hj1, hgj, rfl, BO, HC⟩ := hrel
     by_cases hj : j < (nodesOf E).length
     · obtain ⟨ad, e, hx⟩ := Kd.at_int (Kd.R_reads' (Kd.R_below RA.out BO.out)).2.2 j hj0 hj
       cases e
       have HT := Aside0.mk (take_snoc (nodesOf E) j hj0 hj)
       have HM := Aside0.mk (mem_rd (nodesOf E) j hj0 hj)
       generalize hy : rd (nodesOf E) j = y at hx HT HM
       clear hy
       have BX1 := Aside0.mk ((BO.out.block _ (blk_lt HXw.out)).trans HXw.out)
       have hx0 : wr.cell? ⟨w.heap.size, 0, none⟩ = some (.int .u64 ep) := (blk_cell BX1.out 0).trans rfl
       have hx1 : wr.cell? ⟨w.heap.size, 1, none⟩ = some (.slice A1 up.length c1) := (blk_cell BX1.out 1).trans rfl
       have hx2 : wr.cell? ⟨w.heap.size, 2, none⟩ = some (.slice A2 hops.length c2) := (blk_cell BX1.out 2).trans rfl
       have hbw := below_then HBw.out HBw.out.size BO.out
       have HBW := Aside0.mk hbw
       cases hq : (reachOf E y).contains y with
       | true =>
        have hq := Aside0.mk hq
        go_wp2_with fail
        go_region_held3 (fun W => W.cell? ⟨w.heap.size, 0, none⟩ = some (.int .u64 ep) ∧ W.cell? ⟨w.heap.size, 1, none⟩ = some (.slice A1 up.length c1) ∧ W.cell? ⟨w.heap.size, 2, none⟩ = some (.slice A2 hops.length c2) ∧ W.cell? (ad.add j.toNat) = some (.int .i64 y) ∧ Below w.heap.size w W)
         (first
          | exact ⟨hx0, hx1, hx2, hx, below_drew hbw⟩
          | exact ⟨pw_cell_below (pw_below_drewN hb3 nd) (show wr.drew.cell? _ = _ from hx0), pw_cell_below (pw_below_drewN hb3 nd) (show wr.drew.cell? _ = _ from hx1), pw_cell_below (pw_below_drewN hb3 nd) (show wr.drew.cell? _ = _ from hx2), pw_cell_below (pw_below_drewN hb3 nd) (show wr.drew.cell? _ = _ from hx), below_then (below_drew hbw) (below_drew hbw).size (pw_below_drewN hb3 nd)⟩
          | exact ⟨pw_cell_below hb3 (show wr.drew.cell? _ = _ from hx0), pw_cell_below hb3 (show wr.drew.cell? _ = _ from hx1), pw_cell_below hb3 (show wr.drew.cell? _ = _ from hx2), pw_cell_below hb3 (show wr.drew.cell? _ = _ from hx), below_then (below_drew hbw) (below_drew hbw).size hb3⟩)
         (first
          | (go_at_call 29; refine (HRE.out y _ (below_drew hbw)).mono ?_; rintro e w3 ⟨v3, rfl, hR3, hb3⟩; obtain ⟨A3, c3, rfl⟩ := Kd.R_slice hR3; have HR3 := Aside0.mk (Kd.R_reads' hR3))
          | (go_at_call 79; refine (braidworkref19_Has.calls ((reachOf E y).length + 1) A3 c3 (reachOf E y) y true _ HR3.out.2.2 HR3.out.2.1 ((has_eq _ y HR3.out.2.2.2.1 _ (Nat.lt_succ_self _)).trans (by rw [hq.out]))).mono ?_; rintro e w4 ⟨rfl, ⟨nd, rfl⟩⟩))
        have hbe := Aside0.mk (below_then (below_drew hbw) (below_drew hbw).size (pw_below_drewN hb3 nd))
        have HQ := Aside0.mk (show orderOf E = none from (TopoMath.order_none _ _).2 ⟨y, HM.out, by rw [← List.contains_iff_mem]; exact hq.out⟩)
        clear hbw hb3 hR3 HR3 hx0 hx1 hx2 hx
        go_wp2
        go_ret2
        exact ⟨_, [], 1, rfl, ⟨.inr ⟨HQ.out, rfl, rfl⟩⟩, Kd.R_nil _ _ _ _ _, hbe.out⟩
       | false =>
        have hq := Aside0.mk hq
        go_wp2_with fail
        go_region_held3 (fun W => W.cell? ⟨w.heap.size, 0, none⟩ = some (.int .u64 ep) ∧ W.cell? ⟨w.heap.size, 1, none⟩ = some (.slice A1 up.length c1) ∧ W.cell? ⟨w.heap.size, 2, none⟩ = some (.slice A2 hops.length c2) ∧ W.cell? (ad.add j.toNat) = some (.int .i64 y) ∧ Below w.heap.size w W)
         (first
          | exact ⟨hx0, hx1, hx2, hx, below_drew hbw⟩
          | exact ⟨pw_cell_below (pw_below_drewN hb3 nd) (show wr.drew.cell? _ = _ from hx0), pw_cell_below (pw_below_drewN hb3 nd) (show wr.drew.cell? _ = _ from hx1), pw_cell_below (pw_below_drewN hb3 nd) (show wr.drew.cell? _ = _ from hx2), pw_cell_below (pw_below_drewN hb3 nd) (show wr.drew.cell? _ = _ from hx), below_then (below_drew hbw) (below_drew hbw).size (pw_below_drewN hb3 nd)⟩
          | exact ⟨pw_cell_below hb3 (show wr.drew.cell? _ = _ from hx0), pw_cell_below hb3 (show wr.drew.cell? _ = _ from hx1), pw_cell_below hb3 (show wr.drew.cell? _ = _ from hx2), pw_cell_below hb3 (show wr.drew.cell? _ = _ from hx), below_then (below_drew hbw) (below_drew hbw).size hb3⟩)
         (first
          | (go_at_call 29; refine (HRE.out y _ (below_drew hbw)).mono ?_; rintro e w3 ⟨v3, rfl, hR3, hb3⟩; obtain ⟨A3, c3, rfl⟩ := Kd.R_slice hR3; have HR3 := Aside0.mk (Kd.R_reads' hR3))
          | (go_at_call 79; refine (braidworkref19_Has.calls ((reachOf E y).length + 1) A3 c3 (reachOf E y) y false _ HR3.out.2.2 HR3.out.2.1 ((has_eq _ y HR3.out.2.2.2.1 _ (Nat.lt_succ_self _)).trans (by rw [hq.out]))).mono ?_; rintro e w4 ⟨rfl, ⟨nd, rfl⟩⟩))
        have BO2 := Aside0.mk (below_then (below_drew BO.out) (below_drew BO.out).size (pw_below_drewN hb3 nd))
        have HC2 := Aside0.mk (show ∀ u ∈ (nodesOf E).take (j + 1).toNat, u ∉ reachOf E u from fun u hu => by
         rw [HT.out, List.mem_append, List.mem_singleton] at hu
         rcases hu with hu | rfl
         · exact HC.out u hu
         · intro h
           have := hq.out
           rw [← List.contains_iff_mem] at h
           rw [h] at this
           cases this)
        clear hbw hb3 hR3 HR3 hx0 hx1 hx2 hx
        have hwr : IntKind.i64.wrap (j + 1) = j + 1 := IntWalk.i64_in _ (by omega)
        go_wp2
        go_roundg ((nodesOf E).length - (j + 1).toNat)
        case measure => omega
        case rel => exact ⟨j + 1, by omega, by omega, Nat.le_refl _, rfl, BO2, HC2⟩
     · have HCY := Aside0.mk (show ∀ n ∈ nodesOf E, n ∉ reachOf E n by
        have := HC.out
        rwa [List.take_of_length_le (by omega)] at this)
       have RA2 := Aside0.mk (Kd.R_below RA.out BO.out)
       have HB2 := Aside0.mk (below_then HBw.out HBw.out.size BO.out)
       have HX2 := Aside0.mk ((BO.out.block _ (blk_lt HXw.out)).trans HXw.out)
       clear HC BO
       obtain ⟨wp, rfl⟩ : ∃ wp : World, wp = wr := ⟨_, rfl⟩
       clear RA HBw HXw
       have HND := Aside0.mk (show (nodesOf E).Nodup from TopoMath.rising_nodup (TopoMath.rising_nodes _ _ E))
       obtain ⟨all, HALL⟩ : ∃ all, Aside0 (nodesOf E = all) := ⟨_, ⟨rfl⟩⟩
       rw [HALL.out] at HCY RA2 HNL hal HND hj hj1 ⊢
       go_wp2
       go_loopg [10, 11, 12, 13, 14] all.length (fun gg v10 v11 v12 v13 v14 W => ∃ out : List Int, all.length - out.length ≤ gg ∧ Aside0 (Below w.heap.size w W) ∧ Aside0 (Kd.R (Kd.int .i64) 3 W wp.heap.size (fun _ => True) v10 out) ∧ Aside0 (Below wp.heap.size wp W) ∧ Aside0 (kahnOf E (leftOf all out).length (leftOf all out) out = orderOf E) ∧ Aside0 (out.Nodup ∧ ∀ y ∈ out, y ∈ all))
       case atStart => exact ⟨[], by omega, HB2, ⟨Kd.R_nil _ _ _ _ _⟩, ⟨Below.refl _ _⟩, ⟨by rw [← HALL.out, show leftOf (nodesOf E) [] = nodesOf E from List.filter_eq_self.2 (by simp)]; rfl⟩, ⟨List.nodup_nil, by simp⟩⟩
       case round =>
        obtain ⟨out, hgo, BW3, RO, BP, HK, HO⟩ := hrel
        obtain ⟨Ao, co, rfl⟩ := Kd.R_slice RO.out
        have hol : out.length ≤ 9223372036854775807 := (Kd.R_reads' RO.out).2.2.2.1
        have HOL := Aside0.mk (show out.length ≤ all.length from TopoMath.length_le_of_sub HO.out.1 HO.out.2)
        by_cases hlt : (out.length : Int) < (all.length : Int)
        · have hlt' : decide ((out.length : Int) < (all.length : Int)) = true := decide_eq_true hlt
          have HON := Aside0.mk (show ∃ y ∈ all, out.contains y = false ∧ allIn E out y = true by
           rw [← HALL.out]
           refine order_on E out (by rw [HALL.out]; exact HCY.out) (fun h => ?_)
           rw [HALL.out] at h
           have hs : ∀ y ∈ all, y ∈ out := fun y hy => by
            by_cases hc : y ∈ out
            · exact hc
            · have : y ∈ leftOf all out := List.mem_filter.2 ⟨hy, by simp [hc]⟩
              rw [h] at this
              cases this
           have := TopoMath.length_le_of_sub HND.out hs
           omega)
          obtain ⟨wq, rfl⟩ : ∃ wq : World, wq = wr := ⟨_, rfl⟩
          go_wp2
          go_loopg [10, 11, 12, 13, 14] all.length (fun gg v10 v11 v12 v13 v14 W => ∃ i2 : Int, v10 = .slice Ao out.length co ∧ 0 ≤ i2 ∧ i2 ≤ all.length ∧ all.length - i2.toNat ≤ gg ∧ v11 = .int .i64 i2 ∧ Aside0 (Below wq.heap.size wq W) ∧ Aside0 (∀ y ∈ all.take i2.toNat, out.contains y = true ∨ allIn E out y = false))
          case atStart => exact ⟨0, rfl, by omega, by omega, by omega, rfl, ⟨Below.refl _ _⟩, ⟨by simp⟩⟩
          case round =>
           obtain ⟨i2, rfl, hi20, hi21, hg2, rfl, BQ, HS⟩ := hrel
           by_cases hi2 : i2 < all.length
           · obtain ⟨ad, e, hx⟩ := Kd.at_int (Kd.R_reads' (Kd.R_below RA2.out (below_then BP.out BP.out.size BQ.out))).2.2 i2 hi20 hi2
             cases e
             have HT := Aside0.mk (take_snoc all i2 hi20 hi2)
             have HM := Aside0.mk (mem_rd all i2 hi20 hi2)
             have HRX := Aside0.mk (rfl : rd all i2 = rd all i2)
             generalize hy : rd all i2 = y at hx HT HM HRX
             have HY := Aside0.mk hy
             clear hy HRX
             have ROq := Aside0.mk (Kd.R_below RO.out BQ.out)
             have HRO := Aside0.mk (Kd.R_reads' ROq.out)
             cases hq : out.contains y with
             | true =>
              have hq := Aside0.mk hq
              go_wp2_with fail
              refine (braidworkref19_Has.calls (out.length + 1) Ao co out y true _ HRO.out.2.2 HRO.out.2.1 ((has_eq _ y hol _ (Nat.lt_succ_self _)).trans (by rw [hq.out]))).mono ?_
              rintro e w4 ⟨rfl, ⟨nd, rfl⟩⟩
              have BQ2 := Aside0.mk (pw_below_drewN BQ.out nd)
              have HS2 := Aside0.mk (show ∀ u ∈ all.take (i2 + 1).toNat, out.contains u = true ∨ allIn E out u = false from fun u hu => by
               rw [HT.out, List.mem_append, List.mem_singleton] at hu
               rcases hu with hu | rfl
               · exact HS.out u hu
               · exact .inl hq.out)
              have hwr : IntKind.i64.wrap (i2 + 1) = i2 + 1 := IntWalk.i64_in _ (by omega)
              clear hx
              go_wp2
              go_roundg (all.length - (i2 + 1).toNat)
              case measure => omega
              case rel => exact ⟨i2 + 1, rfl, by omega, by omega, Nat.le_refl _, rfl, BQ2, HS2⟩
             | false =>
              have hq := Aside0.mk hq
              have BWq := Aside0.mk (below_then BW3.out BW3.out.size BQ.out)
              have BX1 := Aside0.mk (((below_then BP.out BP.out.size BQ.out).block _ (blk_lt HX2.out)).trans HX2.out)
              go_wp2_with fail
              refine (braidworkref19_Has.calls (out.length + 1) Ao co out y false _ HRO.out.2.2 HRO.out.2.1 ((has_eq _ y hol _ (Nat.lt_succ_self _)).trans (by rw [hq.out]))).mono ?_
              rintro e w4 ⟨rfl, ⟨nd, rfl⟩⟩
              have BQ4 := Aside0.mk (pw_below_drewN BQ.out nd)
              have BW4 := Aside0.mk (pw_below_drewN BWq.out nd)
              have RO4 := Aside0.mk (Kd.R_drewN ROq.out nd)
              have hx0 : (wr.drewN nd).drew.cell? ⟨w.heap.size, 0, none⟩ = some (.int .u64 ep) := (blk_cell BX1.out 0).trans rfl
              have hx1 : (wr.drewN nd).drew.cell? ⟨w.heap.size, 1, none⟩ = some (.slice A1 up.length c1) := (blk_cell BX1.out 1).trans rfl
              have hx2 : (wr.drewN nd).drew.cell? ⟨w.heap.size, 2, none⟩ = some (.slice A2 hops.length c2) := (blk_cell BX1.out 2).trans rfl
              have hx : (wr.drewN nd).drew.cell? (ad.add i2.toNat) = some (.int .i64 y) := hx
              go_wp2_with fail
              generalize wr.drewN nd = w4 at BQ4 BW4 RO4 hx0 hx1 hx2 hx ⊢
              refine wp_region_still_tail 6 (by kernel_rfl) (by kernel_rfl) ?_
              change wpStill _ _ w4.drew _ _ _
              simp only [List.take_succ_cons, List.take_zero, List.drop_succ_cons, List.drop_zero]
              repeat still_step
              refine wpStill_nil ?_
              go_wp2_with fail
              refine (HPV.out y _ (below_drew BW4.out)).mono ?_
              rintro e w5 ⟨v5, rfl, hR5, hb5⟩
              obtain ⟨A5, c5, rfl⟩ := Kd.R_slice hR5
              have RP5 := Aside0.mk hR5
              have BQ5 := Aside0.mk (below_then (below_drew BQ4.out) (below_drew BQ4.out).size hb5)
              have BW5 := Aside0.mk (below_then (below_drew BW4.out) (below_drew BW4.out).size hb5)
              have RO5 := Aside0.mk (Kd.R_below (Kd.R_drew RO4.out) hb5)
              have hpl : (prevOf E y).length ≤ 9223372036854775807 := (Kd.R_reads' hR5).2.2.2.1
              clear hR5 hb5 hx0 hx1 hx2 hx BQ4 BW4 RO4 HRO ROq BWq BX1
              generalize hpv : prevOf E y = pv at RP5 hpl ⊢
              have HPVY := Aside0.mk hpv
              clear hpv
              go_wp2
              go_loopg [12, 14] pv.length (fun gg v12 v14 W => ∃ k : Int, 0 ≤ k ∧ k ≤ pv.length ∧ pv.length - k.toNat ≤ gg ∧ v14 = .int .i64 k ∧ v12 = .bool ((pv.take k.toNat).all fun p => out.contains p) ∧ Aside0 (Below w5.heap.size w5 W))
              case atStart => exact ⟨0, by omega, by omega, by omega, rfl, by simp, ⟨Below.refl _ _⟩⟩
              case round =>
               obtain ⟨k, hk0, hk1, hgk, rfl, rfl, BI⟩ := hrel
               by_cases hk : k < pv.length
               · obtain ⟨ad3, e, hz⟩ := Kd.at_int (Kd.R_reads' (Kd.R_below RP5.out BI.out)).2.2 k hk0 hk
                 cases e
                 have HT3 := Aside0.mk (show (pv.take (k + 1).toNat).all (fun p => out.contains p) = ((pv.take k.toNat).all (fun p => out.contains p) && out.contains (rd pv k)) by rw [take_snoc pv k hk0 hk, List.all_append]; simp)
                 generalize hzz : rd pv k = z at hz HT3
                 clear hzz
                 have HRO3 := Aside0.mk (Kd.R_reads' (Kd.R_below RO5.out BI.out))
                 have hwr : IntKind.i64.wrap (k + 1) = k + 1 := IntWalk.i64_in _ (by omega)
                 cases hb : (pv.take k.toNat).all (fun p => out.contains p) with
                 | true =>
                  have HB3 := Aside0.mk (show (pv.take (k + 1).toNat).all (fun p => out.contains p) = out.contains z by rw [HT3.out, hb, Bool.true_and])
                  go_wp2_with fail
                  refine (braidworkref19_Has.calls (out.length + 1) Ao co out z (out.contains z) _ HRO3.out.2.2 HRO3.out.2.1 (has_eq _ z hol _ (Nat.lt_succ_self _))).mono ?_
                  rintro e w6 ⟨rfl, ⟨nd6, rfl⟩⟩
                  have BI6 := Aside0.mk (pw_below_drewN BI.out nd6)
                  go_wp2
                  go_roundg (pv.length - (k + 1).toNat)
                  case measure => omega
                  case rel => exact ⟨k + 1, by omega, by omega, Nat.le_refl _, rfl, by rw [HB3.out]; simp, BI6⟩
                 | false =>
                  have HB3 := Aside0.mk (show (pv.take (k + 1).toNat).all (fun p => out.contains p) = false by rw [HT3.out, hb, Bool.false_and])
                  go_wp2
                  go_roundg (pv.length - (k + 1).toNat)
                  case measure => omega
                  case rel => exact ⟨k + 1, by omega, by omega, Nat.le_refl _, rfl, by rw [HB3.out], BI⟩
               · have HRD := Aside0.mk (show (pv.take k.toNat).all (fun p => out.contains p) = allIn E out y by rw [List.take_of_length_le (by omega), ← HPVY.out]; rfl)
                 have BQ6 := Aside0.mk (below_then BQ5.out BQ5.out.size BI.out)
                 have BW6 := Aside0.mk (below_then BW5.out BW5.out.size BI.out)
                 have RO6 := Aside0.mk (Kd.R_below RO5.out BI.out)
                 have BP6 := Aside0.mk (below_then BP.out BP.out.size BQ6.out)
                 cases hb : (pv.take k.toNat).all (fun p => out.contains p) with
                 | true =>
                  obtain ⟨ad4, e, hx⟩ := Kd.at_int (Kd.R_reads' (Kd.R_below RA2.out BP6.out)).2.2 i2 hi20 hi2
                  cases e
                  rw [HY.out] at hx
                  go_wp2_with ((with_reducible refine gate_builtin (b := .append) (xs := #[.tmp 104, .tmp 109]) rfl ?_); at_builtin; go_loud (refine Kd.R_append (Kd.int .i64) (w0 := wp) wp.heap.size rfl (.tmp 104) (.tmp 109) 31 3 (.int .i64 0) 8 rfl Try.underlying31 info3 rfl (by decide) (by omega) (.slice Ao out.length co) out (y) [.int .i64 (y)] (fun _ => True) (fun _ => False) rfl rfl ?aP (fun _ hk => hk.elim) ?aF ?aO ?aB ?aS ?aL ?_); (case aP => exact rfl); (case aF => exact fun _ _ => trivial); (case aO => exact RO6.out); (case aB => exact BP6.out); (case aS => exact below_size BP6.out); (case aL => exact by have h1 := HOL.out; have h2 := HNL.out; omega); intro v7 w7 ho7 hb7 hg7' hat7; have RO7 := Aside0.mk ho7; have BW7 := Aside0.mk hb7; have GR7 := Aside0.mk hg7'; clear ho7 hb7 hg7' hat7)
                  have hbw7 := Aside0.mk (below_then HB2.out HB2.out.size BW7.out)
                  have HK7 := Aside0.mk (show kahnOf E (leftOf all (out ++ [y])).length (leftOf all (out ++ [y])) (out ++ [y]) = orderOf E by
                   have h := order_step E out i2 hi20 (by rw [HALL.out]; exact hi2) (by rw [HALL.out]; exact HS.out) (by rw [HALL.out, HY.out]; exact hq.out) (by rw [HALL.out, HY.out, ← HRD.out]; exact hb) (by rw [HALL.out]; exact HK.out)
                   rw [HALL.out, HY.out] at h
                   exact h)
                  have HO7 := Aside0.mk (show (out ++ [y]).Nodup ∧ ∀ u ∈ out ++ [y], u ∈ all from ⟨(by
                   rw [List.nodup_append]
                   refine ⟨HO.out.1, by simp, fun a ha c hc => ?_⟩
                   rw [List.mem_singleton] at hc
                   subst hc
                   rintro rfl
                   have := hq.out
                   rw [← List.contains_iff_mem] at ha
                   rw [ha] at this
                   cases this), fun u hu => by
                   rw [List.mem_append, List.mem_singleton] at hu
                   rcases hu with hu | rfl
                   · exact HO.out.2 u hu
                   · exact HM.out⟩)
                  go_roundg (all.length - (out.length + 1))
                  case measure => omega
                  case rel => exact ⟨out ++ [y], by rw [List.length_append]; exact Nat.le_refl _, hbw7, RO7, BW7, HK7, HO7⟩
                 | false =>
                  have HS6 := Aside0.mk (show ∀ u ∈ all.take (i2 + 1).toNat, out.contains u = true ∨ allIn E out u = false from fun u hu => by
                   rw [HT.out, List.mem_append, List.mem_singleton] at hu
                   rcases hu with hu | rfl
                   · exact HS.out u hu
                   · exact .inr (by rw [← HRD.out]; exact hb))
                  have hwr : IntKind.i64.wrap (i2 + 1) = i2 + 1 := IntWalk.i64_in _ (by omega)
                  go_wp2
                  go_roundg (all.length - (i2 + 1).toNat)
                  case measure => omega
                  case rel => exact ⟨i2 + 1, rfl, by omega, by omega, Nat.le_refl _, rfl, BQ6, HS6⟩
           · obtain ⟨y, hy, h1, h2⟩ := HON.out
             have h3 := HS.out y (by rwa [List.take_of_length_le (by omega)])
             rw [h1, h2] at h3
             simp at h3
        · have hlt' : decide ((out.length : Int) < (all.length : Int)) = false := decide_eq_false hlt
          have HQ := Aside0.mk (show orderOf E = some out by
           refine order_end E out (by rw [HALL.out]; exact HK.out) ?_
           rw [HALL.out]
           refine List.filter_eq_nil_iff.2 (fun y hy => ?_)
           have he : out.length = all.length := by have := HOL.out; omega
           by_cases hc : y ∈ out
           · simp [hc]
           · exfalso
             have := TopoMath.length_le_of_sub (List.nodup_cons.2 ⟨hc, HO.out.1⟩) (b := all) (fun z hz => by
              rcases List.mem_cons.1 hz with rfl | hz
              · exact hy
              · exact HO.out.2 z hz)
             simp at this
             omega)
          go_wp2
          go_ret2
          exact ⟨_, out, 0, rfl, ⟨.inl ⟨HQ.out, rfl⟩⟩, Kd.R_lower RO.out HB2.out.size, BW3.out⟩
end Go.Proofs.Ytkkfpmgmicfkfaa.X
set_option linter.unusedVariables false
/- braidworkref19.Order, where the flow is not there. -/
namespace Go.Proofs.Ytkkfpmgmicfkfaa.X
open Go.RowKit Go.Proofs.YtkkfpmgmicfkfaaW.PrintWords Go.Proofs.YtkkfpmgmicfkfaaW.PrintLast Go.Proofs.YtkkfpmgmicfkfaaW.PrintMore Go.Proofs.Ytkkfpmgmicfkfaa
theorem ref_order_none (ep : Int) (A1 : Option Addr) (c1 : Nat) (up : List Bool) (A2 : Option Addr) (c2 : Nat) (hops : List (List S40)) (flow : Int) (w : World) (hin : ¬ (0 ≤ flow ∧ flow < hops.length)) (hl : hops.length ≤ 9223372036854775807) :
 Calls Try.prog 15 #[.agg #[.int .u64 ep, .slice A1 up.length c1, .slice A2 hops.length c2], .int .i64 flow] w fun e w' => e = .returned (.tuple #[.slice none 0 0, .int .i64 1]) ∧ Below w.heap.size w w' := by
 by_cases h0 : flow < 0
 · have h0' : decide (flow < 0) = true := decide_eq_true h0
   have hin := Aside0.mk hin
   go_enter Try.func15, Try.ntmps15
   go_wp2
   go_ret2
   exact ⟨rfl, below_alloc (Below.refl _ _) _⟩
 · have h0' : decide (flow < 0) = false := decide_eq_false h0
   have h1' : decide ((hops.length : Int) ≤ flow) = true := decide_eq_true (by omega)
   have hin := Aside0.mk hin
   go_enter Try.func15, Try.ntmps15
   go_wp2
   go_ret2
   exact ⟨rfl, below_alloc (Below.refl _ _) _⟩
end Go.Proofs.Ytkkfpmgmicfkfaa.X
set_option linter.unusedVariables false
/- braidworkref19.Order, in the print's form. -/
namespace Go.Proofs.Ytkkfpmgmicfkfaa.X
open Go.RowKit Go.Proofs.YtkkfpmgmicfkfaaW.PrintWords Go.Proofs.YtkkfpmgmicfkfaaW.PrintLast Go.Proofs.YtkkfpmgmicfkfaaW.PrintMore Go.Proofs.Ytkkfpmgmicfkfaa
def braidworkref19_Order.f (a0_0 : Int) (l0_1 : List Bool) (l0_2 : List (List S40)) (a1 : Int) : Option (List Int × Int) := if 0 ≤ a1 ∧ a1 < l0_2.length then (if (Rows1.rdr l0_2 a1).length ≤ 1000000 then some (match orderOf (Rows1.rdr l0_2 a1) with | some r => (r, 0) | none => ([], 1)) else none) else some ([], 1)
theorem braidworkref19_Order.calls (a0_0 : Int) (A0_1 : Option Addr) (c0_1 : Nat) (l0_1 : List Bool) (A0_2 : Option Addr) (c0_2 : Nat) (l0_2 : List (List S40)) (a1 : Int) (r1 : List Int) (r2 : Int) (w : World) (hr0_1 : Kd.C Kd.bool w A0_1 l0_1.length l0_1) (hc0_1 : l0_1.length ≤ c0_1) (hr0_2 : Kd.C (Kd.slice 40 k40) w A0_2 l0_2.length l0_2) (hc0_2 : l0_2.length ≤ c0_2) (h : braidworkref19_Order.f a0_0 l0_1 l0_2 a1 = some (r1, r2)) :
 Calls Try.prog 15 #[.agg #[.int .u64 a0_0, .slice A0_1 l0_1.length c0_1, .slice A0_2 l0_2.length c0_2], .int .i64 a1] w fun e w' => ∃ v0_ : Value, e = .returned (.tuple #[v0_, .int .i64 r2]) ∧ Kd.R (Kd.int .i64) 3 w' w.heap.size (fun _ => True) v0_ r1 ∧ Below w.heap.size w w' := by
 unfold braidworkref19_Order.f at h
 split at h
 · rename_i hin
   split at h
   · rename_i hl
     refine (ref_order_some a0_0 A0_1 c0_1 l0_1 A0_2 c0_2 l0_2 a1 w hin.1 hin.2 hr0_1 hc0_1 hr0_2 hc0_2 hl).mono ?_
     rintro e w' ⟨v0, r, n, rfl, ho, hR, hb⟩
     rcases ho.out with ⟨e1, rfl⟩ | ⟨e1, rfl, rfl⟩
     · rw [e1] at h
       simp only [Option.some.injEq, Prod.mk.injEq] at h
       obtain ⟨rfl, rfl⟩ := h
       exact ⟨v0, rfl, hR, hb⟩
     · rw [e1] at h
       simp only [Option.some.injEq, Prod.mk.injEq] at h
       obtain ⟨rfl, rfl⟩ := h
       exact ⟨v0, rfl, hR, hb⟩
   · cases h
 · rename_i hin
   simp only [Option.some.injEq, Prod.mk.injEq] at h
   obtain ⟨rfl, rfl⟩ := h
   refine (ref_order_none a0_0 A0_1 c0_1 l0_1 A0_2 c0_2 l0_2 a1 w hin hr0_2.2.1).mono ?_
   rintro e w' ⟨rfl, hb⟩
   exact ⟨_, rfl, Kd.R_nil _ _ _ _ _, hb⟩
end Go.Proofs.Ytkkfpmgmicfkfaa.X
set_option linter.unusedVariables false
/- What the printed topo.Reach computes. -/
namespace Go.Proofs.Ytkkfpmgmicfkfaa.X
open Go.RowKit Go.Proofs.YtkkfpmgmicfkfaaW.PrintWords Go.Proofs.YtkkfpmgmicfkfaaW.PrintLast Go.Proofs.YtkkfpmgmicfkfaaW.PrintMore Go.Proofs.Ytkkfpmgmicfkfaa
def Way (l : List S40) (n : Int) (x : List Int) : Prop := x.Nodup ∧ (∀ y ∈ nextOf l n, y ∈ x) ∧ (∀ y ∈ x, pathOf l n y)
theorem Way.length {l : List S40} {n : Int} {x : List Int} (h : Way l n x) : x.length ≤ l.length := by
 have := TopoMath.length_le_of_sub h.1 (fun y hy => (h.2.2 y hy).mem)
 simpa using this
theorem Way.snoc {l : List S40} {n : Int} {x : List Int} (h : Way l n x) {y z : Int} (hy : y ∈ x) (hz : z ∈ nextOf l y) (hn : z ∉ x) : Way l n (x ++ [z]) := by
 refine ⟨List.nodup_append.2 ⟨h.1, by simp, fun a ha b hb => ?_⟩, fun u hu => List.mem_append_left _ (h.2.1 u hu), fun u hu => ?_⟩
 · rw [List.mem_singleton] at hb
   subst hb
   rintro rfl
   exact hn ha
 · rcases List.mem_append.1 hu with hu | hu
   · exact h.2.2 u hu
   · rw [List.mem_singleton] at hu
     subst hu
     exact (h.2.2 y hy).trans (.one hz)
theorem sort_reach {l : List S40} {n : Int} {x : List Int} (h : Way l n x) (hc : ∀ y ∈ x, ∀ z ∈ nextOf l y, z ∈ x) : sortL x = reachOf l n := by
 have hm : ∀ y, y ∈ sortL x ↔ y ∈ x := fun y => (sortL_perm x).mem_iff
 refine TopoMath.eq_reach _ _ ?_ (fun y => by rw [hm]; exact TopoMath.reach_char _ _ h.2.1 h.2.2 hc y)
 have h1 := sortL_sorted x
 have h2 : (sortL x).Nodup := (sortL_perm x).nodup_iff.2 h.1
 unfold TopoMath.Rising
 refine (List.Pairwise.and h1 h2).imp (fun hab => ?_)
 obtain ⟨ha, hb⟩ := hab
 have : ¬ _ = _ := hb
 omega
section
variable (ep : Int) (up : List Bool) (hops : List (List S40)) (flow n : Int)
theorem preach_l1 (hlen : (edgesOf hops flow).length ≤ 8796093021952) (at_ y : Int) (nx : List Int) (hnx : nextOf (edgesOf hops flow) y = nx) (h0 : 0 ≤ at_)
 (hnext : ∀ x, at_ < x.length → Way (edgesOf hops flow) n x → (∀ u ∈ x.take (at_ + 1).toNat, ∀ z ∈ nextOf (edgesOf hops flow) u, z ∈ x) → Ev (fun k => topo_Reach.l0 k flow x (at_ + 1) ep up hops) (reachOf (edgesOf hops flow) n)) :
 ∀ (m : Nat) (j : Int) (x : List Int), 0 ≤ j → j ≤ nx.length → nx.length - j.toNat = m → at_ < x.length → rd x at_ = y → Way (edgesOf hops flow) n x → (∀ u ∈ x.take at_.toNat, ∀ z ∈ nextOf (edgesOf hops flow) u, z ∈ x) → (∀ z ∈ nx.take j.toNat, z ∈ x) →
 Ev (fun k => topo_Reach.l1 k flow x at_ nx (nx.length : Int) j ep up hops) (reachOf (edgesOf hops flow) n) := by
 have hnl : nx.length ≤ (edgesOf hops flow).length := by rw [← hnx]; exact nextOf_length _ y
 intro m
 induction m with
 | zero =>
  intro j x hj0 hj1 hm ha hy hw hp hq
  have hwl := hw.length
  refine Ev.step (f := fun k => topo_Reach.l0 k flow x (at_ + 1) ep up hops) (fun k => ?_) (hnext x ha hw ?_)
  · show topo_Reach.l1 (k + 1) flow x at_ nx (nx.length : Int) j ep up hops = _
    unfold topo_Reach.l1
    rw [if_neg (by omega), wrap_up at_ x.length h0 ha (by omega)]
  · intro u hu z hz
    rw [take_snoc x at_ h0 ha, List.mem_append, List.mem_singleton, hy] at hu
    rcases hu with hu | rfl
    · exact hp u hu z hz
    · rw [hnx] at hz
      rw [List.take_of_length_le (by omega)] at hq
      exact hq z hz
 | succ m ih =>
  intro j x hj0 hj1 hm ha hy hw hp hq
  have hwl := hw.length
  have hj : j < (nx.length : Int) := by omega
  have hzm : rd nx j ∈ nx := mem_rd nx j hj0 hj
  have hT := take_snoc nx j hj0 hj
  generalize hz : rd nx j = z at hzm hT
  cases hc : x.contains z with
  | true =>
   have hzx : z ∈ x := List.contains_iff_mem.1 hc
   obtain ⟨K, hK⟩ := ih (j + 1) x (by omega) (by omega) (by omega) ha hy hw hp (fun u hu => by
    rw [hT, List.mem_append, List.mem_singleton] at hu
    rcases hu with hu | rfl
    · exact hq u hu
    · exact hzx)
   refine ⟨K + x.length + 2, fun k hk => ?_⟩
   obtain ⟨k, rfl⟩ : ∃ q, k = q + 1 := ⟨k - 1, by omega⟩
   show topo_Reach.l1 (k + 1) flow x at_ nx (nx.length : Int) j ep up hops = _
   unfold topo_Reach.l1
   rw [if_pos hj, if_pos hj0, if_pos hj, hz, contains_eq x z (by omega) k (by omega), Option.bind_some, hc, if_pos rfl, wrap_up j nx.length hj0 hj (by omega)]
   exact hK k (by omega)
  | false =>
   have hzx : z ∉ x := fun h => by rw [List.contains_iff_mem.2 h] at hc; cases hc
   have hyx : y ∈ x := by rw [← hy]; exact mem_rd x at_ h0 ha
   have hw2 := hw.snoc hyx (by rw [hnx]; exact hzm) hzx
   have hwl2 := hw2.length
   obtain ⟨K, hK⟩ := ih (j + 1) (x ++ [z]) (by omega) (by omega) (by omega) (by simp; omega) (by
    rw [← hy]
    unfold rd
    rw [List.getD_eq_getElem?_getD, List.getD_eq_getElem?_getD, List.getElem?_append_left (by omega)]) hw2 (by
    intro u hu v hv
    rw [List.take_append_of_le_length (by omega)] at hu
    exact List.mem_append_left _ (hp u hu v hv)) (fun u hu => by
    rw [hT, List.mem_append, List.mem_singleton] at hu
    rcases hu with hu | rfl
    · exact List.mem_append_left _ (hq u hu)
    · simp)
   refine ⟨K + x.length + 2, fun k hk => ?_⟩
   obtain ⟨k, rfl⟩ : ∃ q, k = q + 1 := ⟨k - 1, by omega⟩
   show topo_Reach.l1 (k + 1) flow x at_ nx (nx.length : Int) j ep up hops = _
   unfold topo_Reach.l1
   rw [if_pos hj, if_pos hj0, if_pos hj, hz, contains_eq x z (by omega) k (by omega), Option.bind_some, hc, if_neg (by simp), if_pos (by omega), wrap_up j nx.length hj0 hj (by omega)]
   exact hK k (by omega)
theorem preach_l0 (hlen : (edgesOf hops flow).length ≤ 8796093021952) : ∀ (d : Nat) (x : List Int) (at_ : Int), 0 ≤ at_ → at_ ≤ x.length → (edgesOf hops flow).length - at_.toNat = d → Way (edgesOf hops flow) n x → (∀ u ∈ x.take at_.toNat, ∀ z ∈ nextOf (edgesOf hops flow) u, z ∈ x) →
 Ev (fun k => topo_Reach.l0 k flow x at_ ep up hops) (reachOf (edgesOf hops flow) n) := by
 intro d
 induction d with
 | zero =>
  intro x at_ h0 h1 hd hw hp
  have hwl := hw.length
  refine ⟨1, fun k hk => ?_⟩
  obtain ⟨k, rfl⟩ : ∃ q, k = q + 1 := ⟨k - 1, by omega⟩
  show topo_Reach.l0 (k + 1) flow x at_ ep up hops = _
  unfold topo_Reach.l0
  rw [if_neg (by omega)]
  unfold slices_Sort_int_int.f
  rw [if_pos (by omega), Option.bind_some, sort_reach hw (by rwa [List.take_of_length_le (by omega)] at hp)]
 | succ d ih =>
  intro x at_ h0 h1 hd hw hp
  have hwl := hw.length
  by_cases hi : at_ < x.length
  · refine Ev.step (f := fun k => topo_Reach.l1 k flow x at_ (nextOf (edgesOf hops flow) (rd x at_)) ((nextOf (edgesOf hops flow) (rd x at_)).length : Int) 0 ep up hops) (fun k => ?_) (preach_l1 ep up hops flow n hlen at_ (rd x at_) _ rfl h0 (fun x' ha hw' hp' => ih x' (at_ + 1) (by omega) (by omega) (by omega) hw' hp') _ 0 x (by omega) (by omega) rfl hi rfl hw hp (by simp))
    show topo_Reach.l0 (k + 1) flow x at_ ep up hops = _
    unfold topo_Reach.l0
    rw [if_pos hi, if_pos h0]
    unfold topo_Next.f
    rw [if_pos hlen, Option.bind_some]
  · refine ⟨1, fun k hk => ?_⟩
    obtain ⟨k, rfl⟩ : ∃ q, k = q + 1 := ⟨k - 1, by omega⟩
    show topo_Reach.l0 (k + 1) flow x at_ ep up hops = _
    unfold topo_Reach.l0
    rw [if_neg (by omega)]
    unfold slices_Sort_int_int.f
    rw [if_pos (by omega), Option.bind_some, sort_reach hw (by rwa [List.take_of_length_le (by omega)] at hp)]
theorem preach_eq (hlen : (edgesOf hops flow).length ≤ 8796093021952) : ∃ k, topo_Reach.f k ep up hops flow n = some (reachOf (edgesOf hops flow) n) := by
 obtain ⟨k, hk⟩ := (preach_l0 ep up hops flow n hlen _ (nextOf (edgesOf hops flow) n) 0 (by omega) (by omega) rfl ⟨TopoMath.rising_nodup (TopoMath.rising_next _ _ _ n), fun y hy => hy, fun y hy => TopoMath.Path.one hy⟩ (by simp)).rounds
 refine ⟨k, ?_⟩
 unfold topo_Reach.f topo_Next.f
 rw [if_pos hlen, Option.bind_some]
 exact hk
end
end Go.Proofs.Ytkkfpmgmicfkfaa.X
set_option linter.unusedVariables false
/- braidworklaw19.wakes. -/
namespace Go.Proofs.Ytkkfpmgmicfkfaa.X
open Go.RowKit Go.Proofs.YtkkfpmgmicfkfaaW.PrintWords Go.Proofs.YtkkfpmgmicfkfaaW.PrintLast Go.Proofs.YtkkfpmgmicfkfaaW.PrintMore Go.Proofs.Ytkkfpmgmicfkfaa
/-- A row in a block that has just been made. -/
theorem litC {α : Type} {d : Kd α} (w : World) (t : Nat) (xs : List α) (cs : List Value) (hl : xs.length ≤ 9223372036854775807) (h : Reps (d.K (w.alloc (.cells cs.toArray t))) d.sz xs cs) : Kd.C d (w.alloc (.cells cs.toArray t)) (some ⟨w.heap.size, 0, none⟩) xs.length xs := by
 refine ⟨rfl, hl, fun _ => ⟨_, rfl, fun j p hj => ⟨(cs.drop (j * d.sz)).take d.sz, d.K_len (h.2 j p hj), h.2 j p hj, fun i u hu => ?_⟩⟩⟩
 rw [add_plain, blk_cell (blk_new w _)]
 rw [List.getElem?_take] at hu
 split at hu
 · rw [List.getElem?_drop] at hu
   simpa using hu
 · cases hu
theorem repsInt (w : World) (l : List Int) : Reps ((Kd.int .i64).K w) 1 l (l.map (Value.int .i64)) := by
 refine ⟨by simp, fun j p hj => ?_⟩
 obtain ⟨hjl, rfl⟩ := List.getElem?_eq_some_iff.1 hj
 show _ = [Value.int .i64 l[j]]
 rw [Nat.mul_one, List.drop_eq_getElem_cons (by simpa using hjl)]
 simp
theorem litInts (w : World) (l : List Int) (hl : l.length ≤ 1000) : Kd.C (Kd.int .i64) (w.alloc (.cells (l.map (Value.int .i64)).toArray 3)) (some ⟨w.heap.size, 0, none⟩) l.length l := litC w _ l _ (by omega) (repsInt _ l)
theorem litEdge (w : World) (a b : Int) : Kd.C k40 (w.alloc (.cells #[.int .i64 a, .int .i64 b] 40)) (some ⟨w.heap.size, 0, none⟩) 1 [⟨a, b⟩] :=
 litC (d := k40) w _ [⟨a, b⟩] [.int .i64 a, .int .i64 b] (by simp) ⟨rfl, fun j p hj => by
  cases j with
  | zero =>
   simp at hj
   subst hj
   exact k40_mk _ _
  | succ j => simp at hj⟩
def diaE (more : List S40) : List S40 := [⟨0, 2⟩, ⟨0, 3⟩, ⟨2, 4⟩, ⟨3, 4⟩] ++ more
def diaH (more : List S40) : List (List S40) := [diaE more]
def diaU : List Bool := [true, true, true, true, true]
theorem diamond_any (A0 : Option Addr) (c0 : Nat) (more : List S40) (w : World) (hr : Kd.C k40 w A0 more.length more) (hc : more.length ≤ c0) (hl : more.length ≤ 10) :
 Calls Try.prog 98 #[.slice A0 more.length c0] w fun e w' => ∃ A1 c1 A2 c2, e = .returned (.agg #[.int .u64 1, .slice A1 diaU.length c1, .slice A2 (diaH more).length c2]) ∧ Aside0 (diaU.length ≤ c1 ∧ (diaH more).length ≤ c2) ∧ Kd.C Kd.bool w' A1 diaU.length diaU ∧ Kd.C (Kd.slice 40 k40) w' A2 (diaH more).length (diaH more) ∧ Below w.heap.size w w' := by
 refine (braidworklaw19_diamond.calls A0 c0 more 1 diaU (diaH more) w hr hc ?_).mono ?_
 · unfold braidworklaw19_diamond.f
   simp only [Option.bind_some]
   rw [if_pos (by simp; omega)]
   rfl
 · rintro e w' ⟨v1, v2, rfl, h1, h2, hb⟩
   obtain ⟨A1, c1, rfl, l1, g1⟩ := Kd.R_reads h1
   obtain ⟨A2, c2, rfl, l2, g2⟩ := Kd.N_reads h2
   exact ⟨A1, c1, A2, c2, rfl, ⟨l1, l2⟩, g1, g2, hb⟩
theorem dia_order0 : topo_Order.f 1 diaU (diaH []) 0 = some ([0, 2, 3, 4], 0) := by decide +kernel
theorem dia_order1 : topo_Order.f 1 diaU (diaH [⟨4, 0⟩]) 0 = some ([], 1) := by decide +kernel
theorem dia_next : topo_Next.f 1 diaU (diaH []) 0 0 = some [2, 3] := by decide +kernel
theorem dia_prev : topo_Prev.f 1 diaU (diaH []) 0 4 = some [2, 3] := by decide +kernel
theorem dia_reach : ∃ k, topo_Reach.f k 1 diaU (diaH []) 0 0 = some [2, 3, 4] := by
 have h := preach_eq 1 diaU (diaH []) 0 0 (by decide)
 rwa [show reachOf (edgesOf (diaH []) 0) 0 = [2, 3, 4] by decide +kernel] at h
theorem dia_edge0 : topo_Edge.f 100 1 diaU (diaH []) 0 2 4 = some true := (topo_Edge_eq 1 diaU (diaH []) 0 2 4 (by decide) (by decide) 100 (by decide)).trans (by decide)
theorem dia_edge1 : topo_Edge.f 100 1 diaU (diaH []) 0 4 2 = some false := (topo_Edge_eq 1 diaU (diaH []) 0 4 2 (by decide) (by decide) 100 (by decide)).trans (by decide)
theorem same_refl (l : List Int) (h : l.length ≤ 1000) : braidworkref19_Same.f 1001 l l = some true := (same19_eq l l (by omega) 1001 (by omega)).trans (by simp)
structure WK (w0 : World) (g : Nat) (A1 : Option Addr) (c1 : Nat) (A2 : Option Addr) (c2 : Nat) (Ao : Option Addr) (W : World) : Prop where
 bx : W.heap[g]? = some (.cells #[.int .u64 1, .slice A1 diaU.length c1, .slice A2 (diaH []).length c2] 29 (0, 0))
 ups : Kd.C Kd.bool W A1 diaU.length diaU
 rows : Kd.C (Kd.slice 40 k40) W A2 (diaH []).length (diaH [])
 ord : Kd.C (Kd.int .i64) W Ao 4 [0, 2, 3, 4]
 bel : Below w0.heap.size w0 W
theorem WK.below {w0 : World} {g : Nat} {A1 : Option Addr} {c1 : Nat} {A2 : Option Addr} {c2 : Nat} {Ao : Option Addr} {W W' : World} (h : WK w0 g A1 c1 A2 c2 Ao W) (hb : Below W.heap.size W W') : WK w0 g A1 c1 A2 c2 Ao W' :=
 ⟨(hb.block _ (blk_lt h.bx)).trans h.bx, Kd.C_below h.ups hb, Kd.C_below h.rows hb, Kd.C_below h.ord hb, below_then h.bel h.bel.size hb⟩
theorem WK.cells {w0 : World} {g : Nat} {A1 : Option Addr} {c1 : Nat} {A2 : Option Addr} {c2 : Nat} {Ao : Option Addr} {W : World} (h : WK w0 g A1 c1 A2 c2 Ao W) : W.cell? ⟨g, 0, none⟩ = some (.int .u64 1) ∧ W.cell? ⟨g, 1, none⟩ = some (.slice A1 diaU.length c1) ∧ W.cell? ⟨g, 2, none⟩ = some (.slice A2 (diaH []).length c2) :=
 ⟨(blk_cell h.bx 0).trans rfl, (blk_cell h.bx 1).trans rfl, (blk_cell h.bx 2).trans rfl⟩
set_option maxHeartbeats 8000000 in
set_option maxRecDepth 100000 in
theorem wakes_any (w : World) : Calls Try.prog 32 #[] w fun e w' => e = .returned (.bool true) ∧ Below w.heap.size w w' := by
 go_enter Try.func32, Try.ntmps32
 go_wp2_with fail
 refine (diamond_any none 0 [] _ (Kd.C_nil _ _) (Nat.le_refl _) (by simp)).mono ?_
 rintro e w1 ⟨A1, c1, A2, c2, rfl, hl, hU, hH, hb1⟩
 have HU := Aside0.mk (Kd.C_alloc hU (.cells #[.int .u64 1, .slice A1 diaU.length c1, .slice A2 (diaH []).length c2] 29))
 have HH := Aside0.mk (Kd.C_alloc hH (.cells #[.int .u64 1, .slice A1 diaU.length c1, .slice A2 (diaH []).length c2] 29))
 have HX := Aside0.mk (blk_new w1 (.cells #[.int .u64 1, .slice A1 diaU.length c1, .slice A2 (diaH []).length c2] 29))
 have HB := Aside0.mk (below_alloc hb1 (.cells #[.int .u64 1, .slice A1 diaU.length c1, .slice A2 (diaH []).length c2] 29))
 clear hU hH hb1
 go_wp2_with fail
 generalize (w1.alloc (.cells #[.int .u64 1, .slice A1 diaU.length c1, .slice A2 (diaH []).length c2] 29)) = w2 at HU HH HX HB ⊢
 generalize w1.heap.size = g at HX ⊢
 refine (topo_Order.calls 1 A1 c1 diaU A2 c2 (diaH []) 0 [0, 2, 3, 4] 0 w2 HU.out hl.out.1 HH.out hl.out.2 dia_order0).mono ?_
 rintro e w3 ⟨vo, rfl, hO, hb3⟩
 obtain ⟨Ao, co, rfl⟩ := Kd.R_slice hO
 have HO3 := Aside0.mk (Kd.R_reads' hO)
 have HU3 := Aside0.mk (Kd.C_below HU.out hb3)
 have HH3 := Aside0.mk (Kd.C_below HH.out hb3)
 have HX3 := Aside0.mk ((hb3.block _ (blk_lt HX.out)).trans HX.out)
 have HB3 := Aside0.mk (below_then HB.out HB.out.size hb3)
 clear hb3 hO HU HH HX HB
 go_wp2_with fail
 refine (diamond_any (some ⟨w3.heap.size, 0, none⟩) 1 [⟨4, 0⟩] _ (litEdge w3 4 0) (Nat.le_refl _) (by simp)).mono ?_
 rintro e w4 ⟨A1', c1', A2', c2', rfl, hl4, hU4, hH4, hb4⟩
 have hb34 : Below w3.heap.size w3 w4 := below_then (below_alloc (Below.refl _ _) _) (by simp) hb4
 have HO4 := Aside0.mk (Kd.C_below HO3.out.2.2 hb34)
 have HU4 := Aside0.mk (Kd.C_below HU3.out hb34)
 have HH4 := Aside0.mk (Kd.C_below HH3.out hb34)
 have HX4 := Aside0.mk ((hb34.block _ (blk_lt HX3.out)).trans HX3.out)
 have HB4 := Aside0.mk (below_then HB3.out HB3.out.size hb34)
 have hU4 := Aside0.mk hU4
 have hH4 := Aside0.mk hH4
 have HOL := Aside0.mk HO3.out.2.1
 clear hb34 hb4 HU3 HH3 HX3 HB3 HO3
 go_wp2_with fail
 refine (topo_Order.calls 1 A1' c1' diaU A2' c2' (diaH [⟨4, 0⟩]) 0 [] 1 w4 hU4.out hl4.out.1 hH4.out hl4.out.2 dia_order1).mono ?_
 rintro e w5 ⟨vp, rfl, hP, hb5⟩
 obtain ⟨Ap, cp, rfl⟩ := Kd.R_slice hP
 have HO5 := Aside0.mk (Kd.C_below HO4.out hb5)
 have HU5 := Aside0.mk (Kd.C_below HU4.out hb5)
 have HH5 := Aside0.mk (Kd.C_below HH4.out hb5)
 have HX5 := Aside0.mk ((hb5.block _ (blk_lt HX4.out)).trans HX4.out)
 have HB5 := Aside0.mk (below_then HB4.out HB4.out.size hb5)
 clear hb5 hP HU4 HH4 HX4 HB4 HO4 hU4 hH4 hl4
 have HK5 : Aside0 (WK w g A1 c1 A2 c2 Ao w5) := ⟨⟨HX5.out, HU5.out, HH5.out, HO5.out, HB5.out⟩⟩
 clear HX5 HU5 HH5 HB5 HO5
 obtain ⟨hx0, hx1, hx2⟩ := HK5.out.cells
 go_wp2_with fail
 refine (topo_Next.calls 1 A1 c1 diaU A2 c2 (diaH []) 0 0 [2, 3] _ HK5.out.ups hl.out.1 HK5.out.rows hl.out.2 dia_next).mono ?_
 rintro e w6 ⟨v6, rfl, hR, hb⟩
 obtain ⟨A6, c6, rfl⟩ := Kd.R_slice hR
 have HR6 := Aside0.mk (Kd.R_reads' hR)
 have HK6 := Aside0.mk (HK5.out.below hb)
 clear hb hR hx0 hx1 hx2 HK5
 go_wp2_with fail
 refine (braidworkref19_Same.calls 1001 A6 c6 [2, 3] (some ⟨w6.heap.size, 0, none⟩) 2 [2, 3] true _ (Kd.C_alloc HR6.out.2.2 _) HR6.out.2.1 (litInts w6 [2, 3] (by simp)) (Nat.le_refl _) (same_refl _ (by simp))).mono ?_
 rintro e w7 ⟨rfl, hd⟩
 have HK7 := Aside0.mk (HK6.out.below (below_then (below_alloc (Below.refl _ _) _) (by simp) hd.below))
 clear hd HR6 HK6
 obtain ⟨hx0, hx1, hx2⟩ := HK7.out.cells
 go_wp2_with fail
 refine (topo_Prev.calls 1 A1 c1 diaU A2 c2 (diaH []) 0 4 [2, 3] _ HK7.out.ups hl.out.1 HK7.out.rows hl.out.2 dia_prev).mono ?_
 rintro e w8 ⟨v8, rfl, hR, hb⟩
 obtain ⟨A8, c8, rfl⟩ := Kd.R_slice hR
 have HR8 := Aside0.mk (Kd.R_reads' hR)
 have HK8 := Aside0.mk (HK7.out.below hb)
 clear hb hR hx0 hx1 hx2 HK7
 go_wp2_with fail
 refine (braidworkref19_Same.calls 1001 A8 c8 [2, 3] (some ⟨w8.heap.size, 0, none⟩) 2 [2, 3] true _ (Kd.C_alloc HR8.out.2.2 _) HR8.out.2.1 (litInts w8 [2, 3] (by simp)) (Nat.le_refl _) (same_refl _ (by simp))).mono ?_
 rintro e w9 ⟨rfl, hd⟩
 have HK9 := Aside0.mk (HK8.out.below (below_then (below_alloc (Below.refl _ _) _) (by simp) hd.below))
 clear hd HR8 HK8
 obtain ⟨hx0, hx1, hx2⟩ := HK9.out.cells
 go_wp2_with fail
 obtain ⟨kr, hkr⟩ := dia_reach
 refine (topo_Reach.calls kr 1 A1 c1 diaU A2 c2 (diaH []) 0 0 [2, 3, 4] _ HK9.out.ups hl.out.1 HK9.out.rows hl.out.2 hkr).mono ?_
 rintro e w10 ⟨v10, rfl, hR, hb⟩
 obtain ⟨A10, c10, rfl⟩ := Kd.R_slice hR
 have HR10 := Aside0.mk (Kd.R_reads' hR)
 have HK10 := Aside0.mk (HK9.out.below hb)
 clear hb hR hx0 hx1 hx2 HK9
 go_wp2_with fail
 refine (braidworkref19_Same.calls 1001 A10 c10 [2, 3, 4] (some ⟨w10.heap.size, 0, none⟩) 3 [2, 3, 4] true _ (Kd.C_alloc HR10.out.2.2 _) HR10.out.2.1 (litInts w10 [2, 3, 4] (by simp)) (Nat.le_refl _) (same_refl _ (by simp))).mono ?_
 rintro e w11 ⟨rfl, hd⟩
 have HK11 := Aside0.mk (HK10.out.below (below_then (below_alloc (Below.refl _ _) _) (by simp) hd.below))
 clear hd HR10 HK10
 go_wp2_with fail
 refine (braidworkref19_Same.calls 1001 Ao co [0, 2, 3, 4] (some ⟨w11.heap.size, 0, none⟩) 4 [0, 2, 3, 4] true _ (Kd.C_alloc HK11.out.ord _) HOL.out (litInts w11 [0, 2, 3, 4] (by simp)) (Nat.le_refl _) (same_refl _ (by simp))).mono ?_
 rintro e w12 ⟨rfl, hd⟩
 have HK12 := Aside0.mk (HK11.out.below (below_then (below_alloc (Below.refl _ _) _) (by simp) hd.below))
 clear hd HK11
 obtain ⟨hx0, hx1, hx2⟩ := HK12.out.cells
 go_wp2_with fail
 refine (topo_Edge.calls 100 1 A1 c1 diaU A2 c2 (diaH []) 0 2 4 true _ HK12.out.ups hl.out.1 HK12.out.rows hl.out.2 dia_edge0).mono ?_
 rintro e w13 ⟨rfl, hb⟩
 have HK13 := Aside0.mk (HK12.out.below hb)
 clear hb HK12 hx0 hx1 hx2
 obtain ⟨hx0, hx1, hx2⟩ := HK13.out.cells
 go_wp2_with fail
 refine (topo_Edge.calls 100 1 A1 c1 diaU A2 c2 (diaH []) 0 4 2 false _ HK13.out.ups hl.out.1 HK13.out.rows hl.out.2 dia_edge1).mono ?_
 rintro e w14 ⟨rfl, hb⟩
 have HK14 := Aside0.mk (HK13.out.below hb)
 clear hb HK13 hx0 hx1 hx2
 go_wp2
 go_ret
 exact ⟨rfl, HK14.out.bel⟩
end Go.Proofs.Ytkkfpmgmicfkfaa.X
set_option linter.unusedVariables false
/- topo.Config. -/
namespace Go.Proofs.Ytkkfpmgmicfkfaa.X
open Go.RowKit Go.Proofs.YtkkfpmgmicfkfaaW.PrintWords Go.Proofs.YtkkfpmgmicfkfaaW.PrintLast Go.Proofs.YtkkfpmgmicfkfaaW.PrintMore Go.Proofs.Ytkkfpmgmicfkfaa
/-- What is asked of a predicate on flows. -/
def FnF (l : List S124) (g : Nat) (lb : Array Value) (p : S124 → Bool) (w : World) : Prop :=
 ∀ (W : World) (x : S124) (A : Option Addr) (c : Nat), x ∈ l → Below w.heap.size w W → (Kd.int .i64).C W A x.f3.length x.f3 → x.f3.length ≤ c → Calls Try.prog g (#[.agg #[.int .i64 x.f0, .int .i64 x.f1, .int .i64 x.f2, .slice A x.f3.length c]] ++ lb) W fun e w' => e = .returned (.bool (p x)) ∧ Below W.heap.size W w'
theorem any_stepF (l : List S124) (p : S124 → Bool) (i : Int) (h0 : 0 ≤ i) (h1 : i < l.length) (ha : (l.take i.toNat).any p = false) : (l.take (i + 1).toNat).any p = p (rd_T124 l i) := by
 have e : (i + 1).toNat = i.toNat + 1 := by omega
 have hl : i.toNat < l.length := by omega
 rw [e, List.take_succ_eq_append_getElem hl, List.any_append, ha]
 simp [rd_T124, List.getD_eq_getElem?_getD, hl]
set_option maxHeartbeats 8000000 in
set_option maxRecDepth 100000 in
theorem indexFunc_flow (A0 : Option Addr) (c0 : Nat) (l : List S124) (g : Nat) (lb : Array Value) (p : S124 → Bool) (w : World)
 (eg : ∀ args w, (callFunc g args).run Try.prog w = .ok (.enter g args) w) (hr : Kd.C k124 w A0 l.length l) (hf : FnF l g lb p w) :
 Calls Try.prog 130 #[.slice A0 l.length c0, .func (.func g) #[] lb] w fun e w' => ∃ i : Int, e = .returned (.int .i64 i) ∧ Aside0 (decide (0 ≤ i) = l.any p) ∧ Below w.heap.size w w' := by
 have hl := hr.2.1
 have HR := Aside0.mk hr
 have HF := Aside0.mk hf
 clear hr hf
 go_enter Try.func130, Try.ntmps130
 go_wp2
 go_loopg [5, 8] l.length (fun gg v5 v8 W => ∃ i : Int, 0 ≤ i ∧ i ≤ l.length ∧ l.length - i.toNat ≤ gg ∧ v8 = .int .i64 i ∧ Aside0 (Below w.heap.size w W) ∧ Aside0 ((l.take i.toNat).any p = false))
 case atStart => exact ⟨0, by omega, by omega, by omega, rfl, ⟨Below.refl _ _⟩, ⟨rfl⟩⟩
 case round =>
  obtain ⟨i, h0, h1, hg, rfl, BW, HA⟩ := hrel
  by_cases hlt : i < l.length
  · obtain ⟨ad, A3, c3, e, hx0, hx1, hx2, hx3, hx4, hx5⟩ := at_T124 (Kd.C_below HR.out BW.out) i h0 hlt
    cases e
    have HS := Aside0.mk (any_stepF l p i h0 hlt HA.out)
    have HM := Aside0.mk (show rd_T124 l i ∈ l by
     rw [show rd_T124 l i = l[i.toNat]'(by omega) by simp [rd_T124, List.getD_eq_getElem?_getD, show i.toNat < l.length by omega]]
     exact List.getElem_mem _)
    have H4 := Aside0.mk hx4
    have H5 := Aside0.mk hx5
    clear hx4 hx5
    generalize hy : rd_T124 l i = x at hx0 hx1 hx2 hx3 H4 H5 HS HM
    replace hy := Aside0.mk hy
    cases hq : p x with
    | true =>
     go_wp2_with fail
     refine (HF.out _ x A3 c3 HM.out BW.out H5.out H4.out).mono ?_
     rintro e w1 ⟨rfl, hb1⟩
     have BW1 := Aside0.mk (below_then BW.out BW.out.size hb1)
     clear hb1
     rw [hq]
     go_wp2
     go_ret
     refine ⟨i, rfl, ⟨?_⟩, BW1.out⟩
     have h2 : l.any p = true := List.any_eq_true.2 ⟨x, HM.out, hq⟩
     rw [h2]
     simpa using h0
    | false =>
     go_wp2_with fail
     refine (HF.out _ x A3 c3 HM.out BW.out H5.out H4.out).mono ?_
     rintro e w1 ⟨rfl, hb1⟩
     have BW1 := Aside0.mk (below_then BW.out BW.out.size hb1)
     clear hb1
     rw [hq]
     go_wp2
     go_roundg (l.length - (i + 1).toNat)
     case measure => omega
     case rel => exact ⟨i + 1, by omega, by omega, Nat.le_refl _, rfl, ⟨BW1.out⟩, ⟨HS.out.trans hq⟩⟩
  · have hi : i = l.length := by omega
    have HA' := Aside0.mk (show l.any p = false by have := HA.out; rwa [hi, Int.toNat_natCast, List.take_length] at this)
    clear HA hi
    go_wp2
    go_ret
    exact ⟨-1, rfl, ⟨by rw [HA'.out]; rfl⟩, BW.out⟩
theorem containsFunc_flow (A0 : Option Addr) (c0 : Nat) (l : List S124) (g : Nat) (lb : Array Value) (p : S124 → Bool) (w : World)
 (eg : ∀ args w, (callFunc g args).run Try.prog w = .ok (.enter g args) w) (hr : Kd.C k124 w A0 l.length l) (hf : FnF l g lb p w) :
 Calls Try.prog 88 #[.slice A0 l.length c0, .func (.func g) #[] lb] w fun e w' => e = .returned (.bool (l.any p)) ∧ Below w.heap.size w w' := by
 have H := indexFunc_flow A0 c0 l g lb p w eg hr hf
 clear hr hf eg
 go_enter Try.func88, Try.ntmps88
 go_wp2_with fail
 refine H.mono ?_
 rintro e w1 ⟨i, rfl, hi, hb⟩
 go_wp2
 go_ret
 exact ⟨by rw [← hi.out]; rfl, hb⟩
/-! ### the closures -/
def sinkBad (nodes src : Int) : Int → List Int → Bool
 | _, [] => false
 | last, n :: r => decide (n ≤ last ∨ nodes ≤ n ∨ n = src) || sinkBad nodes src n r
def flowBad (nodes : Int) (f : S124) : Bool :=
 sinkBad nodes f.f2 (-1) f.f3 || decide (¬ (1 ≤ f.f0 ∧ f.f0 ≤ 255)) || decide (¬ (1 ≤ f.f1 ∧ f.f1 ≤ 65535)) || decide (f.f0 * f.f1 ≤ 4) || decide (¬ (0 ≤ f.f2 ∧ f.f2 ≤ nodes - 1)) || decide (¬ (1 ≤ (f.f3.length : Int) ∧ (f.f3.length : Int) ≤ 8))
theorem config11 (n nodes : Int) (gb : Nat) (b : Bool) (w : World) (hc : w.cell? ⟨gb, 0, none⟩ = some (.int .i64 nodes)) (h1 : 1 ≤ nodes) (h2 : nodes ≤ 64) (hb : decide (0 ≤ n ∧ n ≤ nodes - 1) = b) :
 Calls Try.prog 87 #[.int .i64 n, .pointer (some ⟨gb, 0, none⟩)] w fun e w' => e = .returned (.bool b) ∧ w = w' := by
 have HB := Aside0.mk hb
 clear hb
 go_enter Try.func87, Try.ntmps87
 go_wp2_with fail
 refine (within_any n 0 (nodes - 1) b _ HB.out).mono ?_
 rintro e w' ⟨rfl, rfl⟩
 go_wp2
 go_ret
 exact ⟨rfl, rfl⟩
theorem drop_at' (l : List Int) (i : Int) (h0 : 0 ≤ i) (h1 : i < l.length) : l.drop i.toNat = rd l i :: l.drop (i + 1).toNat := by
 have h2 : i.toNat < l.length := by omega
 have h3 : (i + 1).toNat = i.toNat + 1 := by omega
 rw [h3, List.drop_eq_getElem_cons h2]
 simp [rd, List.getD_eq_getElem?_getD, h2]
def lastOf (l : List Int) (i : Int) : Int := if i = 0 then -1 else rd l (i - 1)
set_option maxHeartbeats 8000000 in
set_option maxRecDepth 100000 in
theorem config1 (f : S124) (A3 : Option Addr) (c3 : Nat) (nodes : Int) (gb : Nat) (w : World) (hc : w.cell? ⟨gb, 0, none⟩ = some (.int .i64 nodes)) (hgb : gb < w.heap.size) (h1 : 1 ≤ nodes) (h2 : nodes ≤ 64)
 (hl : (Kd.int .i64).C w A3 f.f3.length f.f3) (hlc : f.f3.length ≤ c3) :
 Calls Try.prog 86 #[.agg #[.int .i64 f.f0, .int .i64 f.f1, .int .i64 f.f2, .slice A3 f.f3.length c3], .pointer (some ⟨gb, 0, none⟩)] w fun e w' => e = .returned (.bool (flowBad nodes f)) ∧ Below w.heap.size w w' := by
 obtain ⟨G, S, src, l⟩ := f
 dsimp only at hl hlc ⊢
 have hll := hl.2.1
 have eg : ∀ args w, (callFunc 87 args).run Try.prog w = .ok (.enter 87 args) w := enters_of Try.func87 (by kernel_rfl) rfl
 have hb : Below w.heap.size w (w.alloc (.cells #[.int .i64 G, .int .i64 S, .int .i64 src, .slice A3 l.length c3] 124)) := below_alloc (Below.refl _ _) _
 have HB := Aside0.mk hb
 have HL := Aside0.mk (Kd.C_below hl hb)
 have HC := Aside0.mk ((hb.cell (p := ⟨gb, 0, none⟩) hgb).trans hc)
 have HBX := Aside0.mk (blk_new w (.cells #[.int .i64 G, .int .i64 S, .int .i64 src, .slice A3 l.length c3] 124))
 have H1 := Aside0.mk h1
 have H2 := Aside0.mk h2
 clear hl hlc hb hc hgb h1 h2
 go_enter Try.func86, Try.ntmps86
 go_wp2
 generalize (w.alloc (.cells #[.int .i64 G, .int .i64 S, .int .i64 src, .slice A3 l.length c3] 124)) = w1 at HB HL HC HBX ⊢
 have hx0 : w1.cell? ⟨w.heap.size, 0, none⟩ = some (.int .i64 G) := (blk_cell HBX.out 0).trans rfl
 have hx1 : w1.cell? ⟨w.heap.size, 1, none⟩ = some (.int .i64 S) := (blk_cell HBX.out 1).trans rfl
 have hx2 : w1.cell? ⟨w.heap.size, 2, none⟩ = some (.int .i64 src) := (blk_cell HBX.out 2).trans rfl
 have hx3 : w1.cell? ⟨w.heap.size, 3, none⟩ = some (.slice A3 l.length c3) := (blk_cell HBX.out 3).trans rfl
 go_loopg [3, 5, 6, 11] l.length (fun gg v3 v5 v6 v11 W => ∃ i : Int, W = w1 ∧ 0 ≤ i ∧ i ≤ l.length ∧ l.length - i.toNat ≤ gg ∧ v11 = .int .i64 i ∧ Aside0 (sinkBad nodes src (-1) l = sinkBad nodes src (lastOf l i) (l.drop i.toNat)) ∧ Aside0 (-1 ≤ lastOf l i ∧ (0 < i → 0 ≤ lastOf l i)))
 case atStart => exact ⟨0, rfl, by omega, by omega, by omega, rfl, ⟨by simp [lastOf]⟩, ⟨by simp [lastOf]⟩⟩
 case round =>
  obtain ⟨i, rfl, h0, h1, hg, rfl, HS, HP⟩ := hrel
  by_cases hlt : i < l.length
  · obtain ⟨ad, e, hc0⟩ := Kd.at_int HL.out i h0 hlt
    cases e
    have HD := Aside0.mk (show sinkBad nodes src (-1) l = (decide (rd l i ≤ lastOf l i ∨ nodes ≤ rd l i ∨ rd l i = src) || sinkBad nodes src (rd l i) (l.drop (i + 1).toNat)) by
     rw [HS.out, drop_at' l i h0 hlt]
     rfl)
    have HN := Aside0.mk (show lastOf l (i + 1) = rd l i by unfold lastOf; rw [if_neg (by omega), Int.add_sub_cancel])
    have HI := Aside0.mk (show 0 < i → lastOf l i = rd l (i - 1) by intro h; unfold lastOf; rw [if_neg (by omega)])
    have HIC := Aside0.mk (show 0 < i → wr.cell? (ad.add (i.toNat - 1)) = some (.int .i64 (rd l (i - 1))) by
     intro h
     obtain ⟨ad', e', h'⟩ := Kd.at_int HL.out (i - 1) (by omega) (by omega)
     cases e'
     rwa [show (i - 1).toNat = i.toNat - 1 by omega] at h')
    have HI0 := Aside0.mk (show i = 0 → lastOf l i = -1 by intro h; unfold lastOf; rw [if_pos h])
    generalize hn : rd l i = n at hc0 HD HN
    cases hb1 : decide (0 ≤ n ∧ n ≤ nodes - 1) with
    | false =>
     have HQ := Aside0.mk (show flowBad nodes ⟨G, S, src, l⟩ = true by
      have h1 := decide_eq_false_iff_not.1 hb1
      have h2 := HP.out.1
      have h3 : decide (n ≤ lastOf l i ∨ nodes ≤ n ∨ n = src) = true := decide_eq_true (by omega)
      unfold flowBad
      simp only [HD.out, h3, Bool.true_or])
     have hb1 := Aside0.mk hb1
     go_wp2_with fail
     refine (config11 n nodes gb false _ HC.out H1.out H2.out hb1.out).mono ?_
     rintro e w2 ⟨rfl, rfl⟩
     go_wp2
     go_ret
     exact ⟨by rw [HQ.out]; rfl, HB.out⟩
    | true =>
     have hb1 := Aside0.mk hb1
     by_cases hs : n = src
     · have HQ := Aside0.mk (show flowBad nodes ⟨G, S, src, l⟩ = true by
        have h3 : decide (n ≤ lastOf l i ∨ nodes ≤ n ∨ n = src) = true := decide_eq_true (.inr (.inr hs))
        unfold flowBad
        simp only [HD.out, h3, Bool.true_or])
       subst hs
       go_wp2_with fail
       refine (config11 n nodes gb true _ HC.out H1.out H2.out hb1.out).mono ?_
       rintro e w2 ⟨rfl, rfl⟩
       go_wp2
       go_ret
       exact ⟨by rw [HQ.out]; rfl, HB.out⟩
     · have hs1 : decide (n = src) = false := decide_eq_false hs
       have hs2 : (n == src) = false := beq_eq_false_iff_ne.2 hs
       have hs := Aside0.mk hs
       by_cases hi : 0 < i
       · have hi1 : decide (0 < i) = true := decide_eq_true hi
         have hic := HIC.out hi
         have him : IntKind.i64.wrap (i - 1) = i - 1 := IntWalk.i64_in _ (by omega)
         by_cases hge : n ≤ rd l (i - 1)
         · have HQ := Aside0.mk (show flowBad nodes ⟨G, S, src, l⟩ = true by
            have h3 : decide (n ≤ lastOf l i ∨ nodes ≤ n ∨ n = src) = true := decide_eq_true (.inl (by rw [HI.out hi]; exact hge))
            unfold flowBad
            simp only [HD.out, h3, Bool.true_or])
           have hge1 : decide (n ≤ rd l (i - 1)) = true := decide_eq_true hge
           go_wp2_with fail
           refine (config11 n nodes gb true _ HC.out H1.out H2.out hb1.out).mono ?_
           rintro e w2 ⟨rfl, rfl⟩
           go_wp2
           go_ret
           exact ⟨by rw [HQ.out]; rfl, HB.out⟩
         · have hge1 : decide (n ≤ rd l (i - 1)) = false := decide_eq_false hge
           have HX := Aside0.mk (show sinkBad nodes src (-1) l = sinkBad nodes src (lastOf l (i + 1)) (l.drop (i + 1).toNat) by
            have h1 := of_decide_eq_true hb1.out
            have h3 : decide (n ≤ lastOf l i ∨ nodes ≤ n ∨ n = src) = false := decide_eq_false (by rw [HI.out hi]; have := hs.out; omega)
            rw [HD.out, h3, Bool.false_or, HN.out])
           have HY := Aside0.mk (show -1 ≤ lastOf l (i + 1) ∧ (0 < i + 1 → 0 ≤ lastOf l (i + 1)) by
            have h1 := of_decide_eq_true hb1.out
            rw [HN.out]
            omega)
           go_wp2_with fail
           refine (config11 n nodes gb true _ HC.out H1.out H2.out hb1.out).mono ?_
           rintro e w2 ⟨rfl, rfl⟩
           go_wp2
           go_roundg (l.length - (i + 1).toNat)
           case measure => omega
           case rel => exact ⟨i + 1, rfl, by omega, by omega, Nat.le_refl _, rfl, HX, HY⟩
       · have hi1 : decide (0 < i) = false := decide_eq_false hi
         have HX := Aside0.mk (show sinkBad nodes src (-1) l = sinkBad nodes src (lastOf l (i + 1)) (l.drop (i + 1).toNat) by
          have h1 := of_decide_eq_true hb1.out
          have h3 : decide (n ≤ lastOf l i ∨ nodes ≤ n ∨ n = src) = false := decide_eq_false (by rw [HI0.out (by omega)]; have := hs.out; omega)
          rw [HD.out, h3, Bool.false_or, HN.out])
         have HY := Aside0.mk (show -1 ≤ lastOf l (i + 1) ∧ (0 < i + 1 → 0 ≤ lastOf l (i + 1)) by
          have h1 := of_decide_eq_true hb1.out
          rw [HN.out]
          omega)
         go_wp2_with fail
         refine (config11 n nodes gb true _ HC.out H1.out H2.out hb1.out).mono ?_
         rintro e w2 ⟨rfl, rfl⟩
         go_wp2
         go_roundg (l.length - (i + 1).toNat)
         case measure => omega
         case rel => exact ⟨i + 1, rfl, by omega, by omega, Nat.le_refl _, rfl, HX, HY⟩
  · have hi : i = l.length := by omega
    have HQ := Aside0.mk (show sinkBad nodes src (-1) l = false by
     rw [HS.out, hi, Int.toNat_natCast, List.drop_length]
     rfl)
    clear HS HP
    go_wp2_with fail
    cases hq : decide (1 ≤ G ∧ G ≤ 255) with
    | false =>
     have q0 := Aside0.mk hq
     have n0 := Aside0.mk (show decide (¬ (1 ≤ G ∧ G ≤ 255)) = true by rw [decide_not, hq]; rfl)
     clear hq
     have HF := Aside0.mk (show flowBad nodes ⟨G, S, src, l⟩ = true by unfold flowBad; simp only [n0.out, Bool.or_true, Bool.true_or])
     refine (within_any G 1 255 false _ q0.out).mono ?_
     rintro e w2 ⟨rfl, rfl⟩
     go_wp2
     go_ret
     exact ⟨by rw [HF.out]; rfl, HB.out⟩
    | true =>
     have q0 := Aside0.mk hq
     have n0 := Aside0.mk (show decide (¬ (1 ≤ G ∧ G ≤ 255)) = false by rw [decide_not, hq]; rfl)
     clear hq
     refine (within_any G 1 255 true _ q0.out).mono ?_
     rintro e w2 ⟨rfl, rfl⟩
     go_wp2_with fail
     cases hq : decide (1 ≤ S ∧ S ≤ 65535) with
     | false =>
      have q1 := Aside0.mk hq
      have n1 := Aside0.mk (show decide (¬ (1 ≤ S ∧ S ≤ 65535)) = true by rw [decide_not, hq]; rfl)
      clear hq
      have HF := Aside0.mk (show flowBad nodes ⟨G, S, src, l⟩ = true by unfold flowBad; simp only [n1.out, Bool.or_true, Bool.true_or])
      refine (within_any S 1 65535 false _ q1.out).mono ?_
      rintro e w2 ⟨rfl, rfl⟩
      go_wp2
      go_ret
      exact ⟨by rw [HF.out]; rfl, HB.out⟩
     | true =>
      have q1 := Aside0.mk hq
      have n1 := Aside0.mk (show decide (¬ (1 ≤ S ∧ S ≤ 65535)) = false by rw [decide_not, hq]; rfl)
      clear hq
      refine (within_any S 1 65535 true _ q1.out).mono ?_
      rintro e w2 ⟨rfl, rfl⟩
      have hmul : IntKind.i64.wrap (G * S) = G * S := IntWalk.i64_in _ (by
       have h1 := of_decide_eq_true q0.out
       have h2 := of_decide_eq_true q1.out
       have h3 : G * S ≤ 255 * 65535 := Int.mul_le_mul h1.2 h2.2 (by omega) (by omega)
       have h4 : 0 ≤ G * S := Int.mul_nonneg (by omega) (by omega)
       omega)
      by_cases hm : G * S ≤ 4
      · have n2 := Aside0.mk (show decide (G * S ≤ 4) = true from decide_eq_true hm)
        have hm1 : decide (G * S ≤ 4) = true := n2.out
        have HF := Aside0.mk (show flowBad nodes ⟨G, S, src, l⟩ = true by unfold flowBad; simp only [n2.out, Bool.or_true, Bool.true_or])
        go_wp2
        go_ret
        exact ⟨by rw [HF.out]; rfl, HB.out⟩
      · have n2 := Aside0.mk (show decide (G * S ≤ 4) = false from decide_eq_false hm)
        have hm1 : decide (G * S ≤ 4) = false := n2.out
        clear hm
        go_wp2_with fail
        cases hq : decide (0 ≤ src ∧ src ≤ nodes - 1) with
        | false =>
         have q3 := Aside0.mk hq
         have n3 := Aside0.mk (show decide (¬ (0 ≤ src ∧ src ≤ nodes - 1)) = true by rw [decide_not, hq]; rfl)
         clear hq
         have HF := Aside0.mk (show flowBad nodes ⟨G, S, src, l⟩ = true by unfold flowBad; simp only [n3.out, Bool.or_true, Bool.true_or])
         refine (config11 src nodes gb false _ HC.out H1.out H2.out q3.out).mono ?_
         rintro e w2 ⟨rfl, rfl⟩
         go_wp2
         go_ret
         exact ⟨by rw [HF.out]; rfl, HB.out⟩
        | true =>
         have q3 := Aside0.mk hq
         have n3 := Aside0.mk (show decide (¬ (0 ≤ src ∧ src ≤ nodes - 1)) = false by rw [decide_not, hq]; rfl)
         clear hq
         refine (config11 src nodes gb true _ HC.out H1.out H2.out q3.out).mono ?_
         rintro e w2 ⟨rfl, rfl⟩
         go_wp2_with fail
         cases hq : decide (1 ≤ (l.length : Int) ∧ (l.length : Int) ≤ 8) with
         | false =>
          have q4 := Aside0.mk hq
          have n4 := Aside0.mk (show decide (¬ (1 ≤ (l.length : Int) ∧ (l.length : Int) ≤ 8)) = true by rw [decide_not, hq]; rfl)
          clear hq
          have HF := Aside0.mk (show flowBad nodes ⟨G, S, src, l⟩ = true by unfold flowBad; simp only [n4.out, Bool.or_true, Bool.true_or])
          refine (within_any (l.length : Int) 1 8 false _ q4.out).mono ?_
          rintro e w2 ⟨rfl, rfl⟩
          go_wp2
          go_ret
          exact ⟨by rw [HF.out]; rfl, HB.out⟩
         | true =>
          have q4 := Aside0.mk hq
          have n4 := Aside0.mk (show decide (¬ (1 ≤ (l.length : Int) ∧ (l.length : Int) ≤ 8)) = false by rw [decide_not, hq]; rfl)
          clear hq
          refine (within_any (l.length : Int) 1 8 true _ q4.out).mono ?_
          rintro e w2 ⟨rfl, rfl⟩
          have HF := Aside0.mk (show flowBad nodes ⟨G, S, src, l⟩ = false by unfold flowBad; simp only [HQ.out, n0.out, n1.out, n2.out, n3.out, n4.out, Bool.or_false])
          go_wp2
          go_ret
          exact ⟨by rw [HF.out]; rfl, HB.out⟩
end Go.Proofs.Ytkkfpmgmicfkfaa.X
set_option linter.unusedVariables false
/- topo.Config. -/
namespace Go.Proofs.Ytkkfpmgmicfkfaa.X
open Go.RowKit Go.Proofs.YtkkfpmgmicfkfaaW.PrintWords Go.Proofs.YtkkfpmgmicfkfaaW.PrintLast Go.Proofs.YtkkfpmgmicfkfaaW.PrintMore Go.Proofs.Ytkkfpmgmicfkfaa
def configOk (n : Int) (fl : List S124) (wd q : Int) : Bool :=
 decide (1 ≤ n ∧ n ≤ 64) && (decide (1 ≤ (fl.length : Int) ∧ (fl.length : Int) ≤ 4) && (decide (1 ≤ wd ∧ wd ≤ 16) && (decide (1 ≤ q ∧ q ≤ 64) && !(fl.any (flowBad n)))))
set_option maxHeartbeats 8000000 in
set_option maxRecDepth 100000 in
theorem topo_config (n : Int) (A : Option Addr) (c : Nat) (fl : List S124) (wd q : Int) (w : World) (hf : Kd.C k124 w A fl.length fl) :
 Calls Try.prog 20 #[.agg #[.int .i64 n, .slice A fl.length c, .int .i64 wd, .int .i64 q]] w fun e w' => e = .returned (.bool (configOk n fl wd q)) ∧ Below w.heap.size w w' := by
 have hl := hf.2.1
 have hb : Below w.heap.size w (w.alloc (.cells #[.int .i64 n, .slice A fl.length c, .int .i64 wd, .int .i64 q] 24)) := below_alloc (Below.refl _ _) _
 have HB := Aside0.mk hb
 have HF := Aside0.mk (Kd.C_below hf hb)
 have HBX := Aside0.mk (blk_new w (.cells #[.int .i64 n, .slice A fl.length c, .int .i64 wd, .int .i64 q] 24))
 have eg : ∀ args w, (callFunc 86 args).run Try.prog w = .ok (.enter 86 args) w := enters_of Try.func86 (by kernel_rfl) rfl
 clear hf hb
 go_enter Try.func20, Try.ntmps20
 have hx0 : (w.alloc (.cells #[.int .i64 n, .slice A fl.length c, .int .i64 wd, .int .i64 q] 24)).cell? ⟨w.heap.size, 0, none⟩ = some (.int .i64 n) := (blk_cell HBX.out 0).trans rfl
 go_wp2_with fail
 cases hq : decide (1 ≤ n ∧ n ≤ 64) with
 | false =>
  have q0 := Aside0.mk hq
  clear hq
  have HQ := Aside0.mk (show configOk n fl wd q = false by unfold configOk; simp only [q0.out, Bool.false_and, Bool.and_false])
  refine (within_any n 1 64 false _ q0.out).mono ?_
  rintro e w2 ⟨rfl, rfl⟩
  go_wp2
  go_ret
  exact ⟨by rw [HQ.out]; rfl, HB.out⟩
 | true =>
  have q0 := Aside0.mk hq
  clear hq
  refine (within_any n 1 64 true _ q0.out).mono ?_
  rintro e w2 ⟨rfl, rfl⟩
  go_wp2_with fail
  cases hq : decide (1 ≤ (fl.length : Int) ∧ (fl.length : Int) ≤ 4) with
  | false =>
   have q1 := Aside0.mk hq
   clear hq
   have HQ := Aside0.mk (show configOk n fl wd q = false by unfold configOk; simp only [q1.out, Bool.false_and, Bool.and_false])
   refine (within_any (fl.length : Int) 1 4 false _ q1.out).mono ?_
   rintro e w2 ⟨rfl, rfl⟩
   go_wp2
   go_ret
   exact ⟨by rw [HQ.out]; rfl, HB.out⟩
  | true =>
   have q1 := Aside0.mk hq
   clear hq
   refine (within_any (fl.length : Int) 1 4 true _ q1.out).mono ?_
   rintro e w2 ⟨rfl, rfl⟩
   go_wp2_with fail
   cases hq : decide (1 ≤ wd ∧ wd ≤ 16) with
   | false =>
    have q2 := Aside0.mk hq
    clear hq
    have HQ := Aside0.mk (show configOk n fl wd q = false by unfold configOk; simp only [q2.out, Bool.false_and, Bool.and_false])
    refine (within_any wd 1 16 false _ q2.out).mono ?_
    rintro e w2 ⟨rfl, rfl⟩
    go_wp2
    go_ret
    exact ⟨by rw [HQ.out]; rfl, HB.out⟩
   | true =>
    have q2 := Aside0.mk hq
    clear hq
    refine (within_any wd 1 16 true _ q2.out).mono ?_
    rintro e w2 ⟨rfl, rfl⟩
    go_wp2_with fail
    cases hq : decide (1 ≤ q ∧ q ≤ 64) with
    | false =>
     have q3 := Aside0.mk hq
     clear hq
     have HQ := Aside0.mk (show configOk n fl wd q = false by unfold configOk; simp only [q3.out, Bool.false_and, Bool.and_false])
     refine (within_any q 1 64 false _ q3.out).mono ?_
     rintro e w2 ⟨rfl, rfl⟩
     go_wp2
     go_ret
     exact ⟨by rw [HQ.out]; rfl, HB.out⟩
    | true =>
     have q3 := Aside0.mk hq
     clear hq
     refine (within_any q 1 64 true _ q3.out).mono ?_
     rintro e w2 ⟨rfl, rfl⟩
     go_wp2_with fail
     refine (containsFunc_flow A c fl 86 #[.pointer (some ⟨w.heap.size, 0, none⟩)] (flowBad n) _ eg HF.out (fun W x A3 c3 hm hW hC hc => ?_)).mono ?_
     · exact config1 x A3 c3 n w.heap.size W ((hW.cell (p := ⟨w.heap.size, 0, none⟩) (blk_lt HBX.out)).trans ((blk_cell HBX.out 0).trans rfl)) (Nat.lt_of_lt_of_le (blk_lt HBX.out) hW.size) (of_decide_eq_true q0.out).1 (of_decide_eq_true q0.out).2 hC hc
     rintro e w2 ⟨rfl, hb2⟩
     have HB2 := Aside0.mk (below_then HB.out HB.out.size hb2)
     have HQ := Aside0.mk (show configOk n fl wd q = !(fl.any (flowBad n)) by unfold configOk; simp only [q0.out, q1.out, q2.out, q3.out, Bool.true_and])
     clear hb2
     go_wp2
     go_ret
     exact ⟨by rw [HQ.out]; rfl, HB2.out⟩
end Go.Proofs.Ytkkfpmgmicfkfaa.X
set_option linter.unusedVariables false
/- slices.IsSortedFunc over edges. -/
namespace Go.Proofs.Ytkkfpmgmicfkfaa.X
open Go.RowKit Go.Proofs.YtkkfpmgmicfkfaaW.PrintWords Go.Proofs.YtkkfpmgmicfkfaaW.PrintLast Go.Proofs.YtkkfpmgmicfkfaaW.PrintMore Go.Proofs.Ytkkfpmgmicfkfaa
def ordOf (a b : S40) : Int := if a.f0 < b.f0 then -1 else if a.f0 > b.f0 then 1 else if a.f1 < b.f1 then -1 else if a.f1 > b.f1 then 1 else 0
/-- From a place on, no edge is ahead of the one before it. -/
def SortedFrom (l : List S40) (i : Int) : Prop := ∀ j : Int, i < j → 1 ≤ j → j < l.length → ¬ ordOf (rd_T40 l j) (rd_T40 l (j - 1)) < 0
set_option maxHeartbeats 8000000 in
set_option maxRecDepth 100000 in
theorem isSorted_edges (A : Option Addr) (c : Nat) (l : List S40) (w : World) (hl : Kd.C k40 w A l.length l) :
 Calls Try.prog 91 #[.slice A l.length c, .func (.func 92) #[] #[]] w fun e w' => ∃ b : Bool, e = .returned (.bool b) ∧ Aside0 (b = true ↔ SortedFrom l 0) ∧ Below w.heap.size w w' := by
 have hll := hl.2.1
 have HL := Aside0.mk hl
 have eg : ∀ args w, (callFunc 92 args).run Try.prog w = .ok (.enter 92 args) w := enters_of Try.func92 (by kernel_rfl) rfl
 have hw : IntKind.i64.wrap ((l.length : Int) - 1) = (l.length : Int) - 1 := IntWalk.i64_in _ (by omega)
 clear hl
 go_enter Try.func91, Try.ntmps91
 go_wp2
 go_loopg [5] l.length (fun gg v5 W => ∃ i : Int, v5 = .int .i64 i ∧ -1 ≤ i ∧ i < l.length ∧ i.toNat ≤ gg ∧ Aside0 (Below w.heap.size w W) ∧ Aside0 (SortedFrom l i))
 case atStart => exact ⟨(l.length : Int) - 1, by simp only [hw], by omega, by omega, by omega, ⟨Below.refl _ _⟩, ⟨fun j h1 h2 h3 => by omega⟩⟩
 case round =>
  obtain ⟨i, rfl, h0, h1, hg, BW, HS⟩ := hrel
  by_cases hi : 0 < i
  · have hi1 : decide (0 < i) = true := decide_eq_true hi
    obtain ⟨ad, e, hx0, hx1⟩ := at_T40 (Kd.C_below HL.out BW.out) i (by omega) h1
    obtain ⟨ad', e', hy0, hy1⟩ := at_T40 (Kd.C_below HL.out BW.out) (i - 1) (by omega) (by omega)
    cases e
    cases e'
    have hwi : IntKind.i64.wrap (i - 1) = i - 1 := IntWalk.i64_in _ (by omega)
    have h00 : 0 ≤ i := by omega
    have h01 : 0 ≤ i - 1 := by omega
    have h02 : i - 1 < l.length := by omega
    have h04 : 1 ≤ i := by omega
    rw [show (i - 1).toNat = i.toNat - 1 by omega] at hy0 hy1
    have HO := Aside0.mk (order_eq (rd_T40 l i) (rd_T40 l (i - 1)) 3 (by omega))
    have HST := Aside0.mk (show ¬ ordOf (rd_T40 l i) (rd_T40 l (i - 1)) < 0 → SortedFrom l (i - 1) by
     intro h j hj1 hj2 hj3
     rcases Int.lt_or_le i j with hij | hij
     · exact HS.out j hij hj2 hj3
     · have : j = i := by omega
       rw [this]
       exact h)
    have HSF := Aside0.mk (show ordOf (rd_T40 l i) (rd_T40 l (i - 1)) < 0 → ¬ SortedFrom l 0 by
     intro h hh
     exact hh i hi (by omega) h1 h)
    generalize hx : rd_T40 l i = x at hx0 hx1 HO HST HSF
    generalize hy : rd_T40 l (i - 1) = y at hy0 hy1 HO HST HSF
    clear hx hy
    generalize hr : (if x.f0 < y.f0 then (-1 : Int) else if x.f0 > y.f0 then 1 else if x.f1 < y.f1 then -1 else if x.f1 > y.f1 then 1 else 0) = r at HO
    have hr : ordOf x y = r := hr
    rw [hr] at HST HSF
    clear hr
    go_wp2_with fail
    refine wp_region_still_tail 10 (by kernel_rfl) (by kernel_rfl) ?_
    change wpStill _ _ wr.drew _ _ _
    have hx0 : wr.drew.cell? _ = _ := hx0
    have hx1 : wr.drew.cell? _ = _ := hx1
    have hy0 : wr.drew.cell? _ = _ := hy0
    have hy1 : wr.drew.cell? _ = _ := hy1
    have hbd := Aside0.mk (below_drew BW.out)
    simp only [List.take_succ_cons, List.take_zero, List.drop_succ_cons, List.drop_zero]
    still_step
    still_step
    still_step
    still_step
    still_step
    still_step
    still_step
    still_step
    still_step
    still_step
    refine wpStill_nil ?_
    by_cases hlt : r < 0
    · have hr1 : decide (r < 0) = true := decide_eq_true hlt
      have HQ := Aside0.mk (HSF.out (by omega))
      clear hlt
      go_wp2_with fail
      refine (topo_order.calls 3 x.f0 x.f1 y.f0 y.f1 r _ HO.out).mono ?_
      rintro e w3 ⟨rfl, hb3⟩
      have HB3 := Aside0.mk (below_then hbd.out hbd.out.size hb3)
      clear hb3
      go_wp2
      go_ret
      exact ⟨false, rfl, ⟨by simp only [Bool.false_eq_true, false_iff]; exact HQ.out⟩, HB3.out⟩
    · have hr1 : decide (r < 0) = false := decide_eq_false hlt
      have HQ := Aside0.mk (HST.out (by omega))
      clear hlt
      go_wp2_with fail
      refine (topo_order.calls 3 x.f0 x.f1 y.f0 y.f1 r _ HO.out).mono ?_
      rintro e w3 ⟨rfl, hb3⟩
      have HB3 := Aside0.mk (below_then hbd.out hbd.out.size hb3)
      clear hb3
      go_wp2
      go_roundg (i - 1).toNat
      case measure => omega
      case rel => exact ⟨i - 1, rfl, by omega, by omega, Nat.le_refl _, HB3, HQ⟩
  · have hi1 : decide (0 < i) = false := decide_eq_false hi
    have HQ := Aside0.mk (show SortedFrom l 0 from fun j h1 h2 h3 => HS.out j (by omega) h2 h3)
    go_wp2
    go_ret
    exact .inr ⟨rfl, BW.out⟩
end Go.Proofs.Ytkkfpmgmicfkfaa.X
set_option linter.unusedVariables false
/- slices.Compact over edges: is anything dropped? -/
namespace Go.Proofs.Ytkkfpmgmicfkfaa.X
open Go.RowKit Go.Proofs.YtkkfpmgmicfkfaaW.PrintWords Go.Proofs.YtkkfpmgmicfkfaaW.PrintLast Go.Proofs.YtkkfpmgmicfkfaaW.PrintMore Go.Proofs.Ytkkfpmgmicfkfaa
def IsSlice (e : Ending) (m : Nat) : Prop := ∃ A c, e = .returned (.slice A m c)
/-- No edge ahead of place k is its elder neighbour again. -/
def AdjTo (l : List S40) (k : Int) : Prop := ∀ j : Int, 1 ≤ j → j < k → rd_T40 l j ≠ rd_T40 l (j - 1)
/-- Rows of edges, whatever they are. -/
def Prs (W : World) (g n : Nat) : Prop := ∃ cs, W.heap[g]? = some (.cells cs 40 (0, 0)) ∧ ∀ q, q < n → (∃ a, cs[q * 2]? = some (.int .i64 a)) ∧ ∃ b, cs[q * 2 + 1]? = some (.int .i64 b)
theorem put_int {cs : Array Value} {p : Nat} (q : Nat) {a : Int} (b : Int) (h : cs[p]? = some (.int .i64 a)) : ∃ a', (cs.setIfInBounds q (.int .i64 b))[p]? = some (.int .i64 a') := by
 by_cases e : q = p
 · subst e
   have hp : q < cs.size := (Array.getElem?_eq_some_iff.1 h).1
   exact ⟨b, by rw [Array.getElem?_setIfInBounds_self_of_lt hp]⟩
 · exact ⟨a, by rw [Array.getElem?_setIfInBounds_ne e]; exact h⟩
theorem Prs.put {W : World} {g n : Nat} (h : Prs W g n) (q : Nat) (b : Int) : Prs (W.setCell ⟨g, q, none⟩ (.int .i64 b)) g n := by
 obtain ⟨cs, hg, hc⟩ := h
 refine ⟨_, blk_set hg q (.int .i64 b), fun p hp => ?_⟩
 obtain ⟨⟨a1, h1⟩, ⟨a2, h2⟩⟩ := hc p hp
 exact ⟨put_int q b h1, put_int q b h2⟩
theorem Prs.at {W : World} {g n : Nat} (h : Prs W g n) (q : Nat) (hq : q < n) : ∃ a b, W.cell? ⟨g, q * 2, none⟩ = some (.int .i64 a) ∧ W.cell? ⟨g, q * 2 + 1, none⟩ = some (.int .i64 b) ∧ W.frozen? ⟨g, q * 2, none⟩ = false ∧ W.frozen? ⟨g, q * 2 + 1, none⟩ = false := by
 obtain ⟨cs, hg, hc⟩ := h
 obtain ⟨⟨a1, h1⟩, ⟨a2, h2⟩⟩ := hc q hq
 exact ⟨a1, a2, (blk_cell hg _).trans h1, (blk_cell hg _).trans h2, blk_frozen hg _, blk_frozen hg _⟩
theorem Prs.of {W : World} {g : Nat} {cs : Array Value} {l : List S40} (hg : W.heap[g]? = some (.cells cs 40 (0, 0))) (h : Kd.C k40 W (some ⟨g, 0, none⟩) l.length l) : Prs W g l.length := by
 refine ⟨cs, hg, fun q hq => ?_⟩
 obtain ⟨ad, e, h1, h2⟩ := at_T40 h q (by omega) (by omega)
 cases e
 simp only [add_plain, Int.toNat_natCast, Nat.zero_add] at h1 h2
 exact ⟨⟨_, (blk_cell hg _).symm.trans h1⟩, ⟨_, (blk_cell hg _).symm.trans h2⟩⟩
theorem Prs.clear {W : World} {g n c k : Nat} (h : Prs W g n) (hk : k < n) : ∀ ty, (Builtin.clear_ #[38] ty #[.slice (some ⟨g, k * 2, none⟩) (n - k) (c - k)]).run Try.prog W = .ok (.tuple #[]) (W.setCells g (k * 2) (Builtin.zeroCells (Value.agg #[.int .i64 0, .int .i64 0]).cells (n - k)).toList) := by
 intro ty
 have hv : ∀ w, (zeroValue 40).run Try.prog w = .ok (.agg #[.int .i64 0, .int .i64 0]) w := fun w => by kernel_rfl
 obtain ⟨cs, hg, hc⟩ := h
 obtain ⟨m, hm⟩ : ∃ m, n - k = m + 1 := ⟨n - k - 1, by omega⟩
 have hlen : (Builtin.zeroCells (Value.agg #[.int .i64 0, .int .i64 0]).cells (n - k)).toList.length = (n - k) * 2 := by simp [Builtin.zeroCells, Value.cells]
 have hst := run_storeCells_cells (P := Try.prog) g (k * 2) (Builtin.zeroCells (Value.agg #[.int .i64 0, .int .i64 0]).cells (n - k)).toList 0 W
  (fun j hj => by
   rw [hlen] at hj
   obtain ⟨⟨a1, h1⟩, ⟨a2, h2⟩⟩ := hc ((k * 2 + j) / 2) (by omega)
   rw [blk_cell hg]
   rcases Nat.mod_two_eq_zero_or_one j with e | e
   · rw [show k * 2 + 0 + j = (k * 2 + j) / 2 * 2 by omega, h1]; rfl
   · rw [show k * 2 + 0 + j = (k * 2 + j) / 2 * 2 + 1 by omega, h2]; rfl)
  (fun j _ => blk_frozen hg _)
  (by
   intro v hv
   simp only [Builtin.zeroCells, Value.cells, Array.toList_map, List.mem_map] at hv
   obtain ⟨i, _, rfl⟩ := hv
   rcases Nat.mod_two_eq_zero_or_one i with e | e
   · simp [e, Value.oneCell']
   · simp [e, Value.oneCell'])
 rw [hm] at hst ⊢
 simp [Builtin.clear_, run_underlying Try.underlying38, hv, hst]
theorem grown_put {w W : World} {g : Nat} (h : w.grownBy W (some g)) (q : Nat) (v : Value) : w.grownBy (W.setCell ⟨g, q, none⟩ v) (some g) :=
 ⟨h.os, h.tape, h.output, by simpa [World.setCell] using h.size, fun k hk hne => (Below.heap_setCell W ⟨g, q, none⟩ v k (fun e => hne (by rw [e]))).trans (h.block k hk hne)⟩
theorem grown_puts {w : World} {g : Nat} : ∀ (vs : List Value) (o : Nat) (W : World), w.grownBy W (some g) → w.grownBy (W.setCells g o vs) (some g)
 | [], _, _, h => h
 | v :: r, o, W, h => grown_puts r (o + 1) _ (grown_put h o v)
attribute [local go_sem high] eqA40
set_option maxHeartbeats 8000000 in
set_option maxRecDepth 100000 in
theorem compact_edges (g c base : Nat) (ok : Nat → Prop) (l : List S40) (w : World) (hl : Kd.R k40 40 w base ok (.slice (some ⟨g, 0, none⟩) l.length c) l) :
 Calls Try.prog 93 #[.slice (some ⟨g, 0, none⟩) l.length c] w fun e w' => ∃ m : Nat, IsSlice e m ∧ Aside0 (m = l.length ↔ AdjTo l l.length) ∧ w.grownBy w' (some g) := by
 obtain ⟨_, hlc, hC⟩ := Kd.R_reads' hl
 have hll := hC.2.1
 obtain ⟨cs, hg⟩ := Kd.R_typed hl g rfl
 have HC := Aside0.mk hC
 have HG := Aside0.mk hg
 clear hl hC hg
 by_cases h2 : l.length < 2
 · have h2' : decide ((l.length : Int) < 2) = true := decide_eq_true (by omega)
   have HQ := Aside0.mk (show AdjTo l l.length from fun j h1 h2 => by omega)
   go_enter Try.func93, Try.ntmps93
   go_wp2
   go_ret
   exact ⟨l.length, ⟨_, _, rfl⟩, ⟨by simp only [true_iff]; exact HQ.out⟩, ⟨rfl, rfl, rfl, Nat.le_refl _, fun _ _ _ => rfl⟩⟩
 · have h2' : decide ((l.length : Int) < 2) = false := decide_eq_false (by omega)
   go_enter Try.func93, Try.ntmps93
   go_wp2
   go_loopg [2, 3, 4, 5] l.length (fun gg v2 v3 v4 v5 W => ∃ i : Int, 1 ≤ i ∧ i ≤ l.length ∧ l.length - i.toNat ≤ gg ∧ v3 = .int .i64 i ∧ Aside0 (Drawn0 w W) ∧ Aside0 (AdjTo l i))
   case atStart => exact ⟨1, by omega, by omega, by omega, rfl, ⟨Drawn0.refl _⟩, ⟨fun j h1 h2 => by omega⟩⟩
   case round =>
    obtain ⟨i, h0, h1, hg, rfl, BW, HS⟩ := hrel
    by_cases hi : i < l.length
    · obtain ⟨ad, e, hx0, hx1⟩ := at_T40 (Kd.C_below HC.out BW.out.below) i (by omega) hi
      obtain ⟨ad', e', hy0, hy1⟩ := at_T40 (Kd.C_below HC.out BW.out.below) (i - 1) (by omega) (by omega)
      cases e
      cases e'
      have hwi : IntKind.i64.wrap (i - 1) = i - 1 := IntWalk.i64_in _ (by omega)
      have h00 : 0 ≤ i := by omega
      have h01 : 0 ≤ i - 1 := by omega
      have h02 : i - 1 < l.length := by omega
      rw [show (i - 1).toNat = i.toNat - 1 by omega] at hy0 hy1
      simp only [add_plain] at hx0 hx1 hy0 hy1
      have HN := Aside0.mk (show rd_T40 l i ≠ rd_T40 l (i - 1) → AdjTo l (i + 1) by
       intro h j hj1 hj2
       rcases Int.lt_or_le j i with hij | hij
       · exact HS.out j hj1 hij
       · have : j = i := by omega
         rw [this]
         exact h)
      have HD := Aside0.mk (show rd_T40 l i = rd_T40 l (i - 1) → ¬ AdjTo l l.length from fun h hh => hh i h0 hi h)
      generalize hx : rd_T40 l i = x at hx0 hx1 HN HD
      generalize hy : rd_T40 l (i - 1) = y at hy0 hy1 HN HD
      clear hx hy
      by_cases he : x = y
      · have he0 : (x.f0 == y.f0) = true := by rw [he]; simp
        have he1 : (x.f1 == y.f1) = true := by rw [he]; simp
        have HE := Aside0.mk he
        clear he
        go_wp2_with fail
        go_quiet (fail)
        go_wp2_with fail
        have hb0 : Below w.heap.size w (wr.drewN nq) := pw_below_drewN BW.out.below nq
        have PR0 := Aside0.mk (show Prs (wr.drewN nq) g l.length from Prs.of ((hb0.block g (blk_lt HG.out)).trans HG.out) (Kd.C_below HC.out hb0))
        have GR0 := Aside0.mk (grown_of_below hb0 (some g))
        have HNQ := Aside0.mk (HD.out HE.out)
        clear hx0 hx1 hy0 hy1 HN HD HE he0 he1 hb0 hwi h01 h02
        generalize wr.drewN nq = W0 at PR0 GR0 ⊢
        have hlk : (l.length : Int) - i = ((l.length - i.toNat : Nat) : Int) := by omega
        go_loopg [3, 5] l.length (fun gg v3 v5 W => ∃ k j : Int, 1 ≤ j ∧ i + j ≤ l.length ∧ i ≤ k ∧ k ≤ i + j - 1 ∧ l.length - j.toNat ≤ gg ∧ v3 = .int .i64 k ∧ v5 = .int .i64 j ∧ Aside0 (Prs W g l.length) ∧ Aside0 (w.grownBy W (some g)))
        case atStart => exact ⟨i, 1, by omega, by omega, by omega, by omega, by omega, rfl, rfl, PR0, GR0⟩
        case round =>
         clear PR0 GR0
         obtain ⟨k, j, hj0, hj1, hk0, hk1, hgg, rfl, rfl, PR, GR⟩ := hrel
         by_cases hj : i + j < l.length
         · have hjj : j < ((l.length - i.toNat : Nat) : Int) := by omega
           have hjl : decide (j < ((l.length - i.toNat : Nat) : Int)) = true := decide_eq_true hjj
           obtain ⟨a0, a1, hx0, hx1, fx0, fx1⟩ := PR.out.at (i.toNat + j.toNat) (by omega)
           obtain ⟨b0, b1, hy0, hy1, fy0, fy1⟩ := PR.out.at (i.toNat + (j.toNat - 1)) (by omega)
           obtain ⟨d0, d1, hz0, hz1, fz0, fz1⟩ := PR.out.at k.toNat (by omega)
           rw [Nat.add_mul] at hx0 hx1 hy0 hy1
           have hwj : IntKind.i64.wrap (j - 1) = j - 1 := IntWalk.i64_in _ (by omega)
           have hwj2 : IntKind.i64.wrap (j + 1) = j + 1 := IntWalk.i64_in _ (by omega)
           have hwk2 : IntKind.i64.wrap (k + 1) = k + 1 := IntWalk.i64_in _ (by omega)
           have j00 : 0 ≤ j := by omega
           have j02 : j - 1 < ((l.length - i.toNat : Nat) : Int) := by omega
           have k00 : 0 ≤ k := by omega
           have k01 : k < l.length := by omega
           clear fx0 fx1 fy0 fy1
           by_cases hq : (a0 == b0 && (a1 == b1)) = true
           · have hq1 : (!(a0 == b0 && (a1 == b1))) = false := by rw [hq]; rfl
             go_wp2_with fail
             go_quiet (fail)
             go_wp2_with fail
             go_roundg (l.length - (j + 1).toNat)
             case measure => omega
             case rel => exact ⟨k, j + 1, by omega, by omega, by omega, by omega, Nat.le_refl _, rfl, rfl, ⟨PR.out⟩, ⟨GR.out.os, GR.out.tape, GR.out.output, GR.out.size, GR.out.block⟩⟩
           · have hq1 : (!(a0 == b0 && (a1 == b1))) = true := by rw [Bool.not_eq_true] at hq; rw [hq]; rfl
             go_wp2_with fail
             go_quiet (fail)
             go_wp2_with fail
             have PR1 : Aside0 (Prs (((wr.drewN nq).setCell ⟨g, k.toNat * 2, none⟩ (.int .i64 a0)).setCell ⟨g, k.toNat * 2 + 1, none⟩ (.int .i64 a1)) g l.length) := ⟨((show Prs (wr.drewN nq) g l.length from PR.out).put _ _).put _ _⟩
             have GR1 : Aside0 (w.grownBy (((wr.drewN nq).setCell ⟨g, k.toNat * 2, none⟩ (.int .i64 a0)).setCell ⟨g, k.toNat * 2 + 1, none⟩ (.int .i64 a1)) (some g)) := ⟨grown_put (grown_put (show w.grownBy (wr.drewN nq) (some g) from ⟨GR.out.os, GR.out.tape, GR.out.output, GR.out.size, GR.out.block⟩) _ _) _ _⟩
             go_roundg (l.length - (j + 1).toNat)
             case measure => omega
             case rel => exact ⟨k + 1, j + 1, by omega, by omega, by omega, by omega, Nat.le_refl _, rfl, rfl, PR1, GR1⟩
         · have hjj : ¬ j < ((l.length - i.toNat : Nat) : Int) := by omega
           have hjl : decide (j < ((l.length - i.toNat : Nat) : Int)) = false := decide_eq_false hjj
           have hkl : k.toNat < l.length := by omega
           have hcl := PR.out.clear (c := c) hkl
           have k00 : 0 ≤ k := by omega
           have k01 : k ≤ l.length := by omega
           have HLT := Aside0.mk hkl
           go_wp2_with fail
           go_ret
           exact ⟨k.toNat, ⟨_, _, rfl⟩, ⟨⟨fun h => absurd h (by have := HLT.out; omega), fun h => absurd h HNQ.out⟩⟩, grown_puts _ _ _ GR.out⟩
      · have he0 : (x.f0 == y.f0 && (x.f1 == y.f1)) = false := by
         rw [Bool.eq_false_iff]
         intro h
         simp at h
         exact he (by cases x; cases y; simp_all)
        have HE := Aside0.mk (HN.out he)
        have hwi2 : IntKind.i64.wrap (i + 1) = i + 1 := IntWalk.i64_in _ (by omega)
        clear he HN HD
        go_wp2_with fail
        go_quiet (fail)
        go_wp2_with fail
        have BW1 := Aside0.mk (Drawn0.step BW.out nq)
        go_roundg (l.length - (i + 1).toNat)
        case measure => omega
        case rel => exact ⟨i + 1, by omega, by omega, Nat.le_refl _, rfl, BW1, HE⟩
    · have HQ := Aside0.mk (show AdjTo l l.length from fun j h1 h2 => HS.out j h1 (by omega))
      go_wp2
      go_ret
      exact ⟨l.length, ⟨_, _, rfl⟩, ⟨⟨fun _ => HQ.out, fun _ => rfl⟩⟩, grown_of_below BW.out.below (some g)⟩
end Go.Proofs.Ytkkfpmgmicfkfaa.X
set_option linter.unusedVariables false
/- topo.May's closures. -/
namespace Go.Proofs.Ytkkfpmgmicfkfaa.X
open Go.RowKit Go.Proofs.YtkkfpmgmicfkfaaW.PrintWords Go.Proofs.YtkkfpmgmicfkfaaW.PrintLast Go.Proofs.YtkkfpmgmicfkfaaW.PrintMore Go.Proofs.Ytkkfpmgmicfkfaa
def upOk (nodes : Int) (up : List Bool) (n : Int) : Bool := decide (0 ≤ n ∧ n ≤ nodes - 1) && up.getD n.toNat false
set_option maxHeartbeats 8000000 in
set_option maxRecDepth 100000 in
theorem may1 (n nodes : Int) (gb gt : Nat) (A : Option Addr) (c : Nat) (up : List Bool) (b : Bool) (w : World) (hc : w.cell? ⟨gb, 0, none⟩ = some (.int .i64 nodes)) (hu : w.cell? ⟨gt, 1, none⟩ = some (.slice A up.length c)) (hC : Kd.C Kd.bool w A up.length up) (hl : up.length = nodes) (h1 : 1 ≤ nodes) (h2 : nodes ≤ 64) (hb : upOk nodes up n = b) :
 Calls Try.prog 89 #[.int .i64 n, .pointer (some ⟨gb, 0, none⟩), .pointer (some ⟨gt, 0, none⟩)] w fun e w' => e = .returned (.bool b) ∧ w = w' := by
 have HL := Aside0.mk hl
 have HB := Aside0.mk hb
 cases hq : decide (0 ≤ n ∧ n ≤ nodes - 1) with
 | false =>
  have hq := Aside0.mk hq
  have HBF := Aside0.mk (show b = false by rw [← HB.out]; unfold upOk; rw [hq.out]; rfl)
  clear hC hl hb
  go_enter Try.func89, Try.ntmps89
  go_wp2_with fail
  refine (within_any n 0 (nodes - 1) false _ hq.out).mono ?_
  rintro e w' ⟨rfl, rfl⟩
  go_wp2
  go_ret
  exact ⟨by rw [HBF.out]; rfl, rfl⟩
 | true =>
  have h3 := of_decide_eq_true hq
  obtain ⟨ad, e, hx⟩ := Kd.at_bool hC n h3.1 (by omega)
  cases e
  have h30 := h3.1
  have h31 : n < up.length := by omega
  have hq := Aside0.mk hq
  have HBF := Aside0.mk (show b = up.getD n.toNat false by rw [← HB.out]; unfold upOk; rw [hq.out]; rfl)
  clear hC hl hb h3
  go_enter Try.func89, Try.ntmps89
  go_wp2_with fail
  refine (within_any n 0 (nodes - 1) true _ hq.out).mono ?_
  rintro e w' ⟨rfl, rfl⟩
  go_wp2
  go_ret
  exact ⟨by rw [HBF.out]; rfl, rfl⟩
def badE (nodes : Int) (up : List Bool) (src : Int) (l : List S40) (e : S40) : Bool :=
 !(upOk nodes up e.f0) || (!(upOk nodes up e.f1) || (decide (e.f0 = e.f1) || (decide (e.f1 = src) || decide (8 < ((nextOf l e.f0).length : Int)))))
/-- What stands in the boxes that the closures of May share. -/
structure MayBoxes (nodes : Int) (Af : Option Addr) (cf : Nat) (fl : List S124) (wd q : Int) (ep : Int) (A1 : Option Addr) (c1 : Nat) (up : List Bool) (A2 : Option Addr) (c2 : Nat) (hops : List (List S40)) (gb gt gf : Nat) (w : World) : Prop where
 conf : w.heap[gb]? = some (.cells #[.int .i64 nodes, .slice Af fl.length cf, .int .i64 wd, .int .i64 q] 24 (0, 0))
 topo : w.heap[gt]? = some (.cells #[.int .u64 ep, .slice A1 up.length c1, .slice A2 hops.length c2] 29 (0, 0))
 func : w.heap[gf]? = some (.cells #[.func (.func 89) #[] #[.pointer (some ⟨gb, 0, none⟩), .pointer (some ⟨gt, 0, none⟩)]] 125 (0, 0))
 flows : Kd.C k124 w Af fl.length fl
 ups : Kd.C Kd.bool w A1 up.length up
 rows : Kd.C (Kd.slice 40 k40) w A2 hops.length hops
theorem MayBoxes.below {nodes : Int} {Af : Option Addr} {cf : Nat} {fl : List S124} {wd q : Int} {ep : Int} {A1 : Option Addr} {c1 : Nat} {up : List Bool} {A2 : Option Addr} {c2 : Nat} {hops : List (List S40)} {gb gt gf : Nat} {w W : World} (h : MayBoxes nodes Af cf fl wd q ep A1 c1 up A2 c2 hops gb gt gf w) (hb : Below w.heap.size w W) : MayBoxes nodes Af cf fl wd q ep A1 c1 up A2 c2 hops gb gt gf W :=
 ⟨(hb.block _ (blk_lt h.conf)).trans h.conf, (hb.block _ (blk_lt h.topo)).trans h.topo, (hb.block _ (blk_lt h.func)).trans h.func, Kd.C_below h.flows hb, Kd.C_below h.ups hb, Kd.C_below h.rows hb⟩
set_option maxHeartbeats 8000000 in
set_option maxRecDepth 100000 in
theorem may2 (e : S40) (nodes : Int) (Af : Option Addr) (cf : Nat) (fl : List S124) (wd q : Int) (ep : Int) (A1 : Option Addr) (c1 : Nat) (up : List Bool) (A2 : Option Addr) (c2 : Nat) (hops : List (List S40)) (gb gt gf gx : Nat) (flow : Int) (w : World)
 (hm : MayBoxes nodes Af cf fl wd q ep A1 c1 up A2 c2 hops gb gt gf w) (hx : w.heap[gx]? = some (.cells #[.int .i64 flow] 3 (0, 0))) (h1 : 1 ≤ nodes) (h2 : nodes ≤ 64) (hl : up.length = nodes) (hf0 : 0 ≤ flow) (hf1 : flow < fl.length) (hfl : flow < hops.length) (hrow : (Rows1.rdr hops flow).length ≤ 8796093021952) :
 Calls Try.prog 90 #[.agg #[.int .i64 e.f0, .int .i64 e.f1], .pointer (some ⟨gf, 0, none⟩), .pointer (some ⟨gb, 0, none⟩), .pointer (some ⟨gx, 0, none⟩), .pointer (some ⟨gt, 0, none⟩)] w fun ee w' => ee = .returned (.bool (badE nodes up (rd_T124 fl flow).f2 (Rows1.rdr hops flow) e)) ∧ Below w.heap.size w w' := by
 have eg : ∀ args w, (callFunc 89 args).run Try.prog w = .ok (.enter 89 args) w := enters_of Try.func89 (by kernel_rfl) rfl
 obtain ⟨a, b⟩ := e
 have hfll := hm.flows.2.1
 have hb : Below w.heap.size w (w.alloc (.cells #[.int .i64 a, .int .i64 b] 40)) := below_alloc (Below.refl _ _) _
 have HM := Aside0.mk (hm.below hb)
 have HB := Aside0.mk hb
 have HE := Aside0.mk (blk_new w (.cells #[.int .i64 a, .int .i64 b] 40))
 have HX := Aside0.mk ((hb.block _ (blk_lt hx)).trans hx)
 obtain ⟨ad, A3, c3, eA, hy0, hy1, hy2, hy3, _, _⟩ := at_T124 HM.out.flows flow hf0 hf1
 cases eA
 generalize hsrc : (rd_T124 fl flow).f2 = src at hy2 ⊢
 clear hy0 hy1 hy3 hsrc
 have H1 := Aside0.mk h1
 have H2 := Aside0.mk h2
 have HL := Aside0.mk hl
 have HR := Aside0.mk hrow
 have hcf := (blk_cell HM.out.func 0).trans rfl
 clear hm hb hx h1 h2 hl hrow hcf
 go_enter Try.func90, Try.ntmps90
 go_wp2_with fail
 generalize hW : (w.alloc (.cells #[.int .i64 a, .int .i64 b] 40)) = w1 at HM HB HE HX hy2 ⊢
 have hce0 : w1.cell? ⟨w.heap.size, 0, none⟩ = some (.int .i64 a) := (blk_cell HE.out 0).trans rfl
 have hce1 : w1.cell? ⟨w.heap.size, 1, none⟩ = some (.int .i64 b) := (blk_cell HE.out 1).trans rfl
 have hcf : w1.cell? ⟨gf, 0, none⟩ = some (.func (.func 89) #[] #[.pointer (some ⟨gb, 0, none⟩), .pointer (some ⟨gt, 0, none⟩)]) := (blk_cell HM.out.func 0).trans rfl
 have hcb : w1.cell? ⟨gb, 1, none⟩ = some (.slice (some ad) fl.length cf) := (blk_cell HM.out.conf 1).trans rfl
 have hcx : w1.cell? ⟨gx, 0, none⟩ = some (.int .i64 flow) := (blk_cell HX.out 0).trans rfl
 have hct0 : w1.cell? ⟨gt, 0, none⟩ = some (.int .u64 ep) := (blk_cell HM.out.topo 0).trans rfl
 have hct1 : w1.cell? ⟨gt, 1, none⟩ = some (.slice A1 up.length c1) := (blk_cell HM.out.topo 1).trans rfl
 have hct2 : w1.cell? ⟨gt, 2, none⟩ = some (.slice A2 hops.length c2) := (blk_cell HM.out.topo 2).trans rfl
 have HU := fun (nd : Nat) (n : Int) (v : Bool) (h : upOk nodes up n = v) => may1 n nodes gb gt A1 c1 up v (w1.drewN nd) ((blk_cell HM.out.conf 0).trans rfl) ((blk_cell HM.out.topo 1).trans rfl) (Kd.C_below HM.out.ups (pw_below_drewN (Below.refl _ _) nd)) HL.out H1.out H2.out h |>.mono (fun _ _ hh => (⟨hh.1, hh.2.symm⟩ : _ ∧ _))
 have HU := Aside0.mk HU
 cases hu0 : upOk nodes up a with
 | false =>
  have HQ := Aside0.mk (show badE nodes up src (Rows1.rdr hops flow) ⟨a, b⟩ = true by unfold badE; simp only [hu0]; rfl)
  have hu0 := Aside0.mk hu0
  go_quiet ((go_at_call 89; exact Calls.quiet_of_same (HU.out _ a false hu0.out)))
  go_wp2
  go_ret
  exact ⟨by rw [HQ.out]; rfl, pw_below_drewN HB.out nq⟩
 | true =>
  cases hu1 : upOk nodes up b with
  | false =>
   have HQ := Aside0.mk (show badE nodes up src (Rows1.rdr hops flow) ⟨a, b⟩ = true by unfold badE; simp only [hu0, hu1]; rfl)
   have hu0 := Aside0.mk hu0
   have hu1 := Aside0.mk hu1
   go_quiet ((first | (go_at_call_of 89 (Value.int .i64 a); exact Calls.quiet_of_same (HU.out _ a true hu0.out)) | (go_at_call_of 89 (Value.int .i64 b); exact Calls.quiet_of_same (HU.out _ b false hu1.out))))
   go_wp2
   go_ret
   exact ⟨by rw [HQ.out]; rfl, pw_below_drewN HB.out nq⟩
  | true =>
   by_cases hab : a = b
   · have HQ := Aside0.mk (show badE nodes up src (Rows1.rdr hops flow) ⟨a, b⟩ = true by unfold badE; simp only [hu0, hu1, hab, decide_true]; rfl)
     subst hab
     have hu0 := Aside0.mk hu0
     have hu1 := Aside0.mk hu1
     go_quiet ((go_at_call 89; exact Calls.quiet_of_same (HU.out _ a true hu0.out)))
     go_wp2
     go_ret
     exact ⟨by rw [HQ.out]; rfl, pw_below_drewN HB.out nq⟩
   · have hab1 : decide (a = b) = false := decide_eq_false hab
     by_cases hbs : b = src
     · have HQ := Aside0.mk (show badE nodes up src (Rows1.rdr hops flow) ⟨a, b⟩ = true by unfold badE; simp only [hu0, hu1, hbs, decide_true, Bool.true_or, Bool.or_true])
       subst hbs
       have hu0 := Aside0.mk hu0
       have hu1 := Aside0.mk hu1
       go_quiet ((first | (go_at_call_of 89 (Value.int .i64 a); exact Calls.quiet_of_same (HU.out _ a true hu0.out)) | (go_at_call_of 89 (Value.int .i64 b); exact Calls.quiet_of_same (HU.out _ b true hu1.out))))
       go_wp2
       go_ret
       exact ⟨by rw [HQ.out]; rfl, pw_below_drewN HB.out nq⟩
     · have hbs1 : decide (b = src) = false := decide_eq_false hbs
       have HQ := Aside0.mk (show badE nodes up src (Rows1.rdr hops flow) ⟨a, b⟩ = decide (8 < ((nextOf (Rows1.rdr hops flow) a).length : Int)) by unfold badE; simp only [hu0, hu1, hab1, hbs1, Bool.not_true, Bool.false_or])
       have hu0 := Aside0.mk hu0
       have hu1 := Aside0.mk hu1
       have HS := fun (n : Int) (v : Bool) (h : upOk nodes up n = v) => (show Calls Try.prog 89 #[.int .i64 n, .pointer (some ⟨gb, 0, none⟩), .pointer (some ⟨gt, 0, none⟩)] w1.drew fun e w' => e = .returned (.bool v) ∧ w' = w1.drew from (HU.out 1 n v h))
       have HSa := Aside0.mk (HS a true hu0.out)
       have HSb := Aside0.mk (HS b true hu1.out)
       clear HS
       have hab2 : (a == b) = false := beq_eq_false_iff_ne.2 hab
       have hbs2 : (b == src) = false := beq_eq_false_iff_ne.2 hbs
       refine wp_region_still_tail 35 (by kernel_rfl) (by kernel_rfl) ?_
       change wpStill _ _ w1.drew _ _ _
       have hce0 : w1.drew.cell? ⟨w.heap.size, 0, none⟩ = some (.int .i64 a) := hce0
       have hce1 : w1.drew.cell? ⟨w.heap.size, 1, none⟩ = some (.int .i64 b) := hce1
       have hcf : w1.drew.cell? ⟨gf, 0, none⟩ = some (.func (.func 89) #[] #[.pointer (some ⟨gb, 0, none⟩), .pointer (some ⟨gt, 0, none⟩)]) := hcf
       have hcb : w1.drew.cell? ⟨gb, 1, none⟩ = some (.slice (some ad) fl.length cf) := hcb
       have hcx : w1.drew.cell? ⟨gx, 0, none⟩ = some (.int .i64 flow) := hcx
       have hct0 : w1.drew.cell? ⟨gt, 0, none⟩ = some (.int .u64 ep) := hct0
       have hct1 : w1.drew.cell? ⟨gt, 1, none⟩ = some (.slice A1 up.length c1) := hct1
       have hct2 : w1.drew.cell? ⟨gt, 2, none⟩ = some (.slice A2 hops.length c2) := hct2
       have hy2 : w1.drew.cell? _ = _ := hy2
       simp only [List.take_succ_cons, List.take_zero, List.drop_succ_cons, List.drop_zero]
       still_step
       still_step
       still_step
       still_call HSa.out
       still_step
       still_step
       still_step
       still_step
       still_step
       still_call HSb.out
       repeat still_step
       refine wpStill_nil ?_
       have hbd := Aside0.mk (below_drew HB.out)
       have HN := Aside0.mk (show edgesOf hops flow = Rows1.rdr hops flow by unfold edgesOf; rw [if_pos ⟨hf0, hfl⟩])
       go_wp2_with fail
       refine (topo_next ep A1 c1 up A2 c2 hops flow a _ (Kd.C_below HM.out.rows (below_drew (Below.refl _ _))) (by rw [HN.out]; exact HR.out)).mono ?_
       rintro ee w3 ⟨v0, rfl, hR0, hb3⟩
       have HB3 := Aside0.mk (below_then hbd.out hbd.out.size hb3)
       rw [HN.out] at hR0
       obtain ⟨A0, c0, rfl⟩ := Kd.R_slice hR0
       clear hR0 hb3
       generalize hz : ((nextOf (Rows1.rdr hops flow) a).length : Int) = z at HQ ⊢
       go_wp2
       go_ret
       exact ⟨by rw [HQ.out]; rfl, HB3.out⟩
end Go.Proofs.Ytkkfpmgmicfkfaa.X
set_option linter.unusedVariables false
/- topo.May. -/
namespace Go.Proofs.Ytkkfpmgmicfkfaa.X
open Go.RowKit Go.Proofs.YtkkfpmgmicfkfaaW.PrintWords Go.Proofs.YtkkfpmgmicfkfaaW.PrintLast Go.Proofs.YtkkfpmgmicfkfaaW.PrintMore Go.Proofs.Ytkkfpmgmicfkfaa
def RowP (nodes : Int) (up : List Bool) (src : Int) (l : List S40) : Prop := l.length ≤ 128 ∧ SortedFrom l 0 ∧ AdjTo l l.length ∧ l.any (badE nodes up src l) = false ∧ orderOf l ≠ none
def RowsP (nodes : Int) (up : List Bool) (fl : List S124) (hops : List (List S40)) (i : Int) : Prop := ∀ f : Int, 0 ≤ f → f < i → RowP nodes up (rd_T124 fl f).f2 (Rows1.rdr hops f)
def MayP (nodes : Int) (fl : List S124) (wd q ep : Int) (up : List Bool) (hops : List (List S40)) : Prop := configOk nodes fl wd q = true ∧ 1 ≤ ep ∧ ep ≤ 1125899906842624 ∧ (up.length : Int) = nodes ∧ hops.length = fl.length ∧ RowsP nodes up fl hops hops.length
def IsBool (e : Ending) (P : Prop) : Prop := ∃ b : Bool, e = .returned (.bool b) ∧ (b = true ↔ P)
theorem compact_nil (c : Nat) (w : World) : Calls Try.prog 93 #[.slice none 0 c] w fun e w' => e = .returned (.slice none 0 c) ∧ w' = w := by
 go_enter Try.func93, Try.ntmps93
 go_wp2
 go_ret
 exact ⟨rfl, rfl⟩
theorem compact_any (v : Value) (base : Nat) (l : List S40) (w : World) (hl : Kd.R k40 40 w base (fun _ => True) v l) (hb : base ≤ w.heap.size) :
 Calls Try.prog 93 #[v] w fun e w' => ∃ m : Nat, IsSlice e m ∧ Aside0 (m = l.length ↔ AdjTo l l.length) ∧ Below base w w' := by
 obtain ⟨A, c, rfl⟩ := Kd.R_slice hl
 cases A with
 | none =>
  obtain ⟨_, hlc, hC⟩ := Kd.R_reads' hl
  have h0 : l = [] := by
   rcases Nat.eq_zero_or_pos l.length with h | h
   · exact List.length_eq_zero_iff.1 h
   · obtain ⟨ad, e, _⟩ := hC.2.2 h
     cases e
  subst h0
  refine (compact_nil c w).mono ?_
  rintro e w' ⟨rfl, rfl⟩
  exact ⟨0, ⟨none, c, rfl⟩, ⟨⟨fun _ j h1 h2 => by simp at h2; omega, fun _ => rfl⟩⟩, Below.refl _ _⟩
 | some ad =>
  obtain ⟨g, rfl⟩ := Kd.R_head hl
  have hbg := Kd.R_base hl g rfl
  have hlt := Kd.R_lt hl g rfl
  refine (compact_edges g c base _ l w hl).mono ?_
  rintro e w' ⟨m, h1, h2, hg⟩
  exact ⟨m, h1, h2, ⟨hg.os, hg.tape, hg.output, hg.size, fun k hk => hg.block k (by omega) (fun e => by injection e; omega)⟩⟩
theorem run_store_fn {P : Program} {w : World} (a : Addr) (f : Fn) (x y : Array Value) (m : Mode) : (store a (.func f x y) m).run P w = stored P w a (.func f x y) m := run_store P w a _ m rfl
attribute [local go_sem high] run_store_fn
set_option maxHeartbeats 8000000 in
set_option maxRecDepth 100000 in
theorem topo_may (nodes : Int) (Af : Option Addr) (cf : Nat) (fl : List S124) (wd q : Int) (ep : Int) (A1 : Option Addr) (c1 : Nat) (up : List Bool) (A2 : Option Addr) (c2 : Nat) (hops : List (List S40)) (w : World)
 (hf : Kd.C k124 w Af fl.length fl) (hu : Kd.C Kd.bool w A1 up.length up) (hh : Kd.C (Kd.slice 40 k40) w A2 hops.length hops) (hle : ∀ l ∈ hops, l.length ≤ 8796093021952) :
 Calls Try.prog 22 #[.agg #[.int .i64 nodes, .slice Af fl.length cf, .int .i64 wd, .int .i64 q], .agg #[.int .u64 ep, .slice A1 up.length c1, .slice A2 hops.length c2]] w fun e w' => IsBool e (MayP nodes fl wd q ep up hops) ∧ Below w.heap.size w w' := by
 have hl1 := hf.2.1
 have hl2 := hu.2.1
 have hl3 := hh.2.1
 have hb : Below w.heap.size w ((w.alloc (.cells #[.int .i64 nodes, .slice Af fl.length cf, .int .i64 wd, .int .i64 q] 24)).alloc (.cells #[.int .u64 ep, .slice A1 up.length c1, .slice A2 hops.length c2] 29)) := below_alloc (below_alloc (Below.refl _ _) _) _
 have HB := Aside0.mk hb
 have HF := Aside0.mk (Kd.C_below hf hb)
 have HU := Aside0.mk (Kd.C_below hu hb)
 have HH := Aside0.mk (Kd.C_below hh hb)
 have HLE := Aside0.mk hle
 have HG : Aside0 (((w.alloc (.cells #[.int .i64 nodes, .slice Af fl.length cf, .int .i64 wd, .int .i64 q] 24)).alloc (.cells #[.int .u64 ep, .slice A1 up.length c1, .slice A2 hops.length c2] 29)).heap[w.heap.size]? = some (.cells #[.int .i64 nodes, .slice Af fl.length cf, .int .i64 wd, .int .i64 q] 24 (0, 0))) := ⟨by
  rw [heap_alloc_old _ _ (by simp)]
  exact blk_new w _⟩
 have HT : Aside0 (((w.alloc (.cells #[.int .i64 nodes, .slice Af fl.length cf, .int .i64 wd, .int .i64 q] 24)).alloc (.cells #[.int .u64 ep, .slice A1 up.length c1, .slice A2 hops.length c2] 29)).heap[w.heap.size + 1]? = some (.cells #[.int .u64 ep, .slice A1 up.length c1, .slice A2 hops.length c2] 29 (0, 0))) := ⟨by
  simpa using blk_new (w.alloc (.cells #[.int .i64 nodes, .slice Af fl.length cf, .int .i64 wd, .int .i64 q] 24)) _⟩
 clear hf hu hh hle hb
 go_enter Try.func22, Try.ntmps22
 go_wp2_with fail
 generalize ((w.alloc (.cells #[.int .i64 nodes, .slice Af fl.length cf, .int .i64 wd, .int .i64 q] 24)).alloc (.cells #[.int .u64 ep, .slice A1 up.length c1, .slice A2 hops.length c2] 29)) = w1 at HB HF HU HH HG HT ⊢
 refine (topo_config nodes Af cf fl wd q w1 HF.out).mono ?_
 rintro e w2 ⟨rfl, hb2⟩
 have HG2 := Aside0.mk ((hb2.block _ (blk_lt HG.out)).trans HG.out)
 have HT2 := Aside0.mk ((hb2.block _ (blk_lt HT.out)).trans HT.out)
 have HF2 := Aside0.mk (Kd.C_below HF.out hb2)
 have HU2 := Aside0.mk (Kd.C_below HU.out hb2)
 have HH2 := Aside0.mk (Kd.C_below HH.out hb2)
 have HB2 := Aside0.mk (below_then HB.out HB.out.size hb2)
 clear hb2 HB HF HU HH HG HT
 have ht0 : w2.cell? ⟨w.heap.size + 1, 0, none⟩ = some (.int .u64 ep) := (blk_cell HT2.out 0).trans rfl
 have ht1 : w2.cell? ⟨w.heap.size + 1, 1, none⟩ = some (.slice A1 up.length c1) := (blk_cell HT2.out 1).trans rfl
 have ht2 : w2.cell? ⟨w.heap.size + 1, 2, none⟩ = some (.slice A2 hops.length c2) := (blk_cell HT2.out 2).trans rfl
 have hg0 : w2.cell? ⟨w.heap.size, 0, none⟩ = some (.int .i64 nodes) := (blk_cell HG2.out 0).trans rfl
 have hg1 : w2.cell? ⟨w.heap.size, 1, none⟩ = some (.slice Af fl.length cf) := (blk_cell HG2.out 1).trans rfl
 cases hc : configOk nodes fl wd q with
 | false =>
  have HQ := Aside0.mk (show ¬ MayP nodes fl wd q ep up hops by intro h; rw [h.1] at hc; cases hc)
  clear hc
  go_wp2
  go_ret
  exact ⟨⟨false, rfl, by simp only [Bool.false_eq_true, false_iff]; exact HQ.out⟩, HB2.out⟩
 | true =>
  have HC := Aside0.mk hc
  clear hc
  by_cases he1 : ep < 1
  · have he1' : decide (ep < 1) = true := decide_eq_true he1
    have HQ := Aside0.mk (show ¬ MayP nodes fl wd q ep up hops by intro h; have := h.2.1; omega)
    go_wp2
    go_ret
    exact ⟨⟨false, rfl, by simp only [Bool.false_eq_true, false_iff]; exact HQ.out⟩, HB2.out⟩
  have he1' : decide (ep < 1) = false := decide_eq_false he1
  by_cases he2 : 1125899906842624 < ep
  · have he2' : decide (1125899906842624 < ep) = true := decide_eq_true he2
    have HQ := Aside0.mk (show ¬ MayP nodes fl wd q ep up hops by intro h; have := h.2.2.1; omega)
    go_wp2
    go_ret
    exact ⟨⟨false, rfl, by simp only [Bool.false_eq_true, false_iff]; exact HQ.out⟩, HB2.out⟩
  have he2' : decide (1125899906842624 < ep) = false := decide_eq_false he2
  by_cases hul : (up.length : Int) = nodes
  case neg =>
   have hul' : ((up.length : Int) != nodes) = true := bne_iff_ne.2 hul
   have hul2 : decide ((up.length : Int) = nodes) = false := decide_eq_false hul
   have HQ := Aside0.mk (show ¬ MayP nodes fl wd q ep up hops by intro h; exact hul h.2.2.2.1)
   go_wp2
   go_ret
   exact ⟨⟨false, rfl, by simp only [Bool.false_eq_true, false_iff]; exact HQ.out⟩, HB2.out⟩
  case pos =>
   by_cases hhl : (hops.length : Int) = (fl.length : Int)
   case neg =>
    have hul' : ((up.length : Int) != nodes) = false := by simp [hul]
    have hhl' : ((hops.length : Int) != (fl.length : Int)) = true := bne_iff_ne.2 hhl
    have HQ := Aside0.mk (show ¬ MayP nodes fl wd q ep up hops by intro h; exact hhl (by rw [h.2.2.2.2.1]))
    have hul := Aside0.mk hul
    go_wp2
    go_ret
    exact ⟨⟨false, rfl, by simp only [Bool.false_eq_true, false_iff]; exact HQ.out⟩, HB2.out⟩
   case pos =>
    have hul' : ((up.length : Int) != nodes) = false := by simp [hul]
    have hhl' : ((hops.length : Int) != (fl.length : Int)) = false := by simp [hhl]
    have HUL := Aside0.mk hul
    have HHL := Aside0.mk hhl
    clear hul hhl
    have hn1 : w.heap.size + 1 < w2.heap.size := blk_lt HT2.out
    have hn2 : w.heap.size + 1 ≠ w2.heap.size := Nat.ne_of_lt hn1
    have hb3 : Below w2.heap.size w2 (w2.alloc (.cells #[.func (.func 89) #[] #[.pointer (some ⟨w.heap.size, 0, none⟩), .pointer (some ⟨w.heap.size + 1, 0, none⟩)]] 125)) := below_alloc (Below.refl _ _) _
    have HM : Aside0 (MayBoxes nodes Af cf fl wd q ep A1 c1 up A2 c2 hops w.heap.size (w.heap.size + 1) w2.heap.size (w2.alloc (.cells #[.func (.func 89) #[] #[.pointer (some ⟨w.heap.size, 0, none⟩), .pointer (some ⟨w.heap.size + 1, 0, none⟩)]] 125))) :=
     ⟨⟨(hb3.block _ (blk_lt HG2.out)).trans HG2.out, (hb3.block _ (blk_lt HT2.out)).trans HT2.out, blk_new _ _, Kd.C_below HF2.out hb3, Kd.C_below HU2.out hb3, Kd.C_below HH2.out hb3⟩⟩
    have HB3 := Aside0.mk (below_then HB2.out HB2.out.size hb3)
    clear hb3
    go_wp2_with fail
    clear ht0 ht1 ht2 hg0 hg1 hn1 hn2 HG2 HT2 HF2 HU2 HH2 HB2 he1' he2' hul' hhl'
    generalize (w2.alloc (.cells #[.func (.func 89) #[] #[.pointer (some ⟨w.heap.size, 0, none⟩), .pointer (some ⟨w.heap.size + 1, 0, none⟩)]] 125)) = w3 at HM HB3 ⊢
    generalize w2.heap.size = gf at HM ⊢
    go_loopg [4, 6, 7, 8, 9, 10, 11, 46] hops.length (fun gg v4 v6 v7 v8 v9 v10 v11 v46 W => ∃ i : Int, 0 ≤ i ∧ i ≤ hops.length ∧ hops.length - i.toNat ≤ gg ∧ v46 = .int .i64 i ∧ Aside0 (MayBoxes nodes Af cf fl wd q ep A1 c1 up A2 c2 hops w.heap.size (w.heap.size + 1) gf W) ∧ Aside0 (Below w.heap.size w W) ∧ Aside0 (RowsP nodes up fl hops i))
    case atStart => exact ⟨0, by omega, by omega, by omega, rfl, HM, HB3, ⟨fun f h1 h2 => by omega⟩⟩
    case round =>
     clear HM HB3
     obtain ⟨i, h0, h1, hg, rfl, HM, HB, HR⟩ := hrel
     by_cases hi : i < hops.length
     · obtain ⟨ad, Ar, cr, eA, hx, hle, hC⟩ := Rows1.at_rows HM.out.rows i h0 hi
       cases eA
       have HLR := Aside0.mk hle
       have HCR := Aside0.mk hC
       have hrl : (Rows1.rdr hops i).length ≤ 8796093021952 := HLE.out _ (by
        rw [show Rows1.rdr hops i = hops[i.toNat]'(by omega) by simp [Rows1.rdr, List.getD_eq_getElem?_getD, show i.toNat < hops.length by omega]]
        exact List.getElem_mem _)
       have HRL := Aside0.mk hrl
       generalize hl : Rows1.rdr hops i = l at hx HLR HCR hrl HRL
       have HLL := Aside0.mk hl
       clear hle hC hl
       go_wp2_with fail
       have HBX := Aside0.mk (blk_new wr (.cells #[.int .i64 i] 3))
       have hba : Below wr.heap.size wr (wr.alloc (.cells #[.int .i64 i] 3)) := below_alloc (Below.refl _ _) _
       have HMx := Aside0.mk (HM.out.below hba)
       have HBx := Aside0.mk (below_then HB.out HB.out.size hba)
       have HCx := Aside0.mk (Kd.C_below HCR.out hba)
       have HQR := Aside0.mk (show MayP nodes fl wd q ep up hops → RowP nodes up (rd_T124 fl i).f2 l from fun h => by have := h.2.2.2.2.2 i h0 hi; rwa [HLL.out] at this)
       clear hba hx HM HB HCR
       generalize (wr.alloc (.cells #[.int .i64 i] 3)) = w4 at HBX HMx HBx HCx ⊢
       generalize wr.heap.size = gx at HBX ⊢
       refine (isSorted_edges Ar cr l w4 HCx.out).mono ?_
       rintro e w5 ⟨bs, rfl, hbs, hb5⟩
       have HBX5 := Aside0.mk ((hb5.block _ (blk_lt HBX.out)).trans HBX.out)
       have HM5 := Aside0.mk (HMx.out.below hb5)
       have HB5 := Aside0.mk (below_then HBx.out HBx.out.size hb5)
       have HC5 := Aside0.mk (Kd.C_below HCx.out hb5)
       clear hb5 HBX HMx HBx HCx
       cases bs with
       | false =>
        have HQ := Aside0.mk (show ¬ MayP nodes fl wd q ep up hops from fun h => by have := hbs.out.2 (HQR.out h).2.1; cases this)
        by_cases h128 : 128 < (l.length : Int)
        · have h128' : decide (128 < (l.length : Int)) = true := decide_eq_true h128
          go_wp2
          go_ret
          exact ⟨⟨false, rfl, by simp only [Bool.false_eq_true, false_iff]; exact HQ.out⟩, HB5.out⟩
        · have h128' : decide (128 < (l.length : Int)) = false := decide_eq_false h128
          go_wp2
          go_ret
          exact ⟨⟨false, rfl, by simp only [Bool.false_eq_true, false_iff]; exact HQ.out⟩, HB5.out⟩
       | true =>
        have HS := Aside0.mk (show SortedFrom l 0 from hbs.out.1 rfl)
        clear hbs
        go_wp2_with fail
        refine (clone_edge Ar cr l w5 HC5.out (by omega)).mono ?_
        rintro e w6 ⟨v6, rfl, hR6, hb6⟩
        go_wp2_with fail
        refine (compact_any v6 w5.heap.size l w6 hR6 hb6.size).mono ?_
        rintro e w7 ⟨m, ⟨A7, c7, rfl⟩, hm7, hb7⟩
        have hb57 := hb6.trans hb7
        have HBX7 := Aside0.mk ((hb57.block _ (blk_lt HBX5.out)).trans HBX5.out)
        have HM7 := Aside0.mk (HM5.out.below hb57)
        have HB7 := Aside0.mk (below_then HB5.out HB5.out.size hb57)
        have HC7 := Aside0.mk (Kd.C_below HC5.out hb57)
        clear hb6 hb7 hb57 hR6 HBX5 HM5 HB5 HC5
        by_cases h128 : 128 < (l.length : Int)
        · have h128' : decide (128 < (l.length : Int)) = true := decide_eq_true h128
          have HQ := Aside0.mk (show ¬ MayP nodes fl wd q ep up hops from fun h => by have := (HQR.out h).1; omega)
          cases hmm : decide ((m : Int) = (l.length : Int)) with
          | false =>
           have hmm2 : ((m : Int) == (l.length : Int)) = false := hmm
           go_wp2
           go_ret
           exact ⟨⟨false, rfl, by simp only [Bool.false_eq_true, false_iff]; exact HQ.out⟩, HB7.out⟩
          | true =>
           have hmm2 : ((m : Int) == (l.length : Int)) = true := hmm
           go_wp2
           go_ret
           exact ⟨⟨false, rfl, by simp only [Bool.false_eq_true, false_iff]; exact HQ.out⟩, HB7.out⟩
        · have h128' : decide (128 < (l.length : Int)) = false := decide_eq_false h128
          cases hmm : decide ((m : Int) = (l.length : Int)) with
          | false =>
           have hmm2 : ((m : Int) == (l.length : Int)) = false := hmm
           have HQ := Aside0.mk (show ¬ MayP nodes fl wd q ep up hops from fun h => by
            have h1 := of_decide_eq_false hmm
            have h2 := hm7.out.2 (HQR.out h).2.2.1
            omega)
           go_wp2
           go_ret
           exact ⟨⟨false, rfl, by simp only [Bool.false_eq_true, false_iff]; exact HQ.out⟩, HB7.out⟩
          | true =>
           have hmm2 : ((m : Int) == (l.length : Int)) = true := hmm
           have HA := Aside0.mk (show AdjTo l l.length from hm7.out.1 (by have := of_decide_eq_true hmm; omega))
           have hmm := Aside0.mk hmm
           clear hm7
           have eg : ∀ args w, (callFunc 90 args).run Try.prog w = .ok (.enter 90 args) w := enters_of Try.func90 (by kernel_rfl) rfl
           have HFN : Aside0 (FnB 90 #[.pointer (some ⟨gf, 0, none⟩), .pointer (some ⟨w.heap.size, 0, none⟩), .pointer (some ⟨gx, 0, none⟩), .pointer (some ⟨w.heap.size + 1, 0, none⟩)] (badE nodes up (rd_T124 fl i).f2 l) w7) := ⟨fun W x hW => by
            have hnb := of_decide_eq_true (p := 1 ≤ nodes ∧ nodes ≤ 64) (by
             have := HC.out
             unfold configOk at this
             simp only [Bool.and_eq_true] at this
             exact this.1)
            have h := may2 x nodes Af cf fl wd q ep A1 c1 up (some ad) c2 hops w.heap.size (w.heap.size + 1) gf gx i W (HM7.out.below hW) ((hW.block _ (blk_lt HBX7.out)).trans HBX7.out) hnb.1 hnb.2 HUL.out h0 (by have := HHL.out; omega) hi (by rw [HLL.out]; exact HRL.out)
            rw [HLL.out] at h
            exact h⟩
           go_wp2_with fail
           refine (containsFunc_edge Ar cr l 90 #[.pointer (some ⟨gf, 0, none⟩), .pointer (some ⟨w.heap.size, 0, none⟩), .pointer (some ⟨gx, 0, none⟩), .pointer (some ⟨w.heap.size + 1, 0, none⟩)] (badE nodes up (rd_T124 fl i).f2 l) w7 eg HC7.out HFN.out).mono ?_
           rintro e w8 ⟨rfl, hb8⟩
           have HBX8 := Aside0.mk ((hb8.block _ (blk_lt HBX7.out)).trans HBX7.out)
           have HM8 := Aside0.mk (HM7.out.below hb8)
           have HB8 := Aside0.mk (below_then HB7.out HB7.out.size hb8)
           clear hb8 HBX7 HM7 HB7 HC7 HFN
           cases hbad : l.any (badE nodes up (rd_T124 fl i).f2 l) with
           | true =>
            have HQ := Aside0.mk (show ¬ MayP nodes fl wd q ep up hops from fun h => by
             have := (HQR.out h).2.2.2.1
             rw [hbad] at this
             cases this)
            go_wp2
            go_ret
            exact ⟨⟨false, rfl, by simp only [Bool.false_eq_true, false_iff]; exact HQ.out⟩, HB8.out⟩
           | false =>
            have HBAD := Aside0.mk hbad
            clear hbad
            have hx0 : w8.cell? ⟨gx, 0, none⟩ = some (.int .i64 i) := (blk_cell HBX8.out 0).trans rfl
            have ht0 : w8.cell? ⟨w.heap.size + 1, 0, none⟩ = some (.int .u64 ep) := (blk_cell HM8.out.topo 0).trans rfl
            have ht1 : w8.cell? ⟨w.heap.size + 1, 1, none⟩ = some (.slice A1 up.length c1) := (blk_cell HM8.out.topo 1).trans rfl
            have ht2 : w8.cell? ⟨w.heap.size + 1, 2, none⟩ = some (.slice (some ad) hops.length c2) := (blk_cell HM8.out.topo 2).trans rfl
            go_wp2_with fail
            refine (order_some ep A1 c1 up (some ad) c2 hops i w8 h0 hi HM8.out.rows (by rw [HLL.out]; exact HRL.out)).mono ?_
            rintro e w9 ⟨v9, r, n, rfl, hord, hR9, hb9⟩
            have HM9 := Aside0.mk (HM8.out.below hb9)
            have HB9 := Aside0.mk (below_then HB8.out HB8.out.size hb9)
            rw [HLL.out] at hord
            clear hb9 hR9 HBX8 HM8 HB8 hx0 ht0 ht1 ht2
            rcases hord.out with ⟨ho, hn⟩ | ⟨ho, _, hn⟩
            · have HRP := Aside0.mk (show RowsP nodes up fl hops (i + 1) from fun f h1 h2 => by
               rcases Int.lt_or_le f i with hfi | hfi
               · exact HR.out f h1 hfi
               · have hfi : f = i := by omega
                 subst hfi
                 rw [HLL.out]
                 exact ⟨by omega, HS.out, HA.out, HBAD.out, by rw [ho]; simp⟩)
              subst hn
              clear hord ho
              go_wp2
              go_roundg (hops.length - (i + 1).toNat)
              case measure => omega
              case rel => exact ⟨i + 1, by omega, by omega, Nat.le_refl _, rfl, HM9, HB9, HRP⟩
            · have HQ := Aside0.mk (show ¬ MayP nodes fl wd q ep up hops from fun h => (HQR.out h).2.2.2.2 ho)
              subst hn
              clear hord ho
              go_wp2
              go_ret
              exact ⟨⟨false, rfl, by simp only [Bool.false_eq_true, false_iff]; exact HQ.out⟩, HB9.out⟩
     · have HQ := Aside0.mk (show MayP nodes fl wd q ep up hops from ⟨HC.out, by omega, by omega, HUL.out, by have := HHL.out; omega, fun f h1 h2 => HR.out f h1 (by omega)⟩)
       go_wp2
       go_ret
       exact ⟨⟨true, rfl, by simp only [true_iff]; exact HQ.out⟩, HB.out⟩
end Go.Proofs.Ytkkfpmgmicfkfaa.X
set_option linter.unusedVariables false
/- What the reference asks of a flow's row is what topo.May asks of it. -/
namespace Go.Proofs.Ytkkfpmgmicfkfaa.X
open Go.RowKit Go.Proofs.YtkkfpmgmicfkfaaW.PrintWords Go.Proofs.YtkkfpmgmicfkfaaW.PrintLast Go.Proofs.YtkkfpmgmicfkfaaW.PrintMore Go.Proofs.Ytkkfpmgmicfkfaa
def edgeOk (nodes : Int) (up : List Bool) (src : Int) (e : S40) : Bool := upOk nodes up e.f0 && (upOk nodes up e.f1 && (!(decide (e.f0 = e.f1)) && !(decide (e.f1 = src))))
def ltE (a b : S40) : Prop := a.f0 < b.f0 ∨ a.f0 = b.f0 ∧ a.f1 < b.f1
def RowR (nodes : Int) (up : List Bool) (src : Int) (l : List S40) : Prop := l.length ≤ 128 ∧ (∀ j : Int, 0 ≤ j → j < l.length → edgeOk nodes up src (rd_T40 l j) = true) ∧ (∀ j : Int, 1 ≤ j → j < l.length → ltE (rd_T40 l (j - 1)) (rd_T40 l j)) ∧ ∀ n : Int, 0 ≤ n → n < nodes → (nextOf l n).length ≤ 8 ∧ n ∉ reachOf l n
theorem rdE_mem (l : List S40) (j : Int) (h0 : 0 ≤ j) (h1 : j < l.length) : rd_T40 l j ∈ l := by
 rw [show rd_T40 l j = l[j.toNat]'(by omega) by simp [rd_T40, List.getD_eq_getElem?_getD, show j.toNat < l.length by omega]]
 exact List.getElem_mem _
theorem memE_rd {l : List S40} {e : S40} (h : e ∈ l) : ∃ j : Int, 0 ≤ j ∧ j < l.length ∧ rd_T40 l j = e := by
 obtain ⟨k, hk, rfl⟩ := List.getElem_of_mem h
 exact ⟨k, by omega, by omega, by simp [rd_T40, List.getD_eq_getElem?_getD, hk]⟩
theorem ordOf_lt (a b : S40) : ordOf a b < 0 ↔ ltE a b := by
 unfold ordOf ltE
 split
 · simp; omega
 · split
   · simp; omega
   · split
     · simp; omega
     · split <;> simp <;> omega
theorem upOk_in {nodes : Int} {up : List Bool} {n : Int} (h : upOk nodes up n = true) : 0 ≤ n ∧ n < nodes := by
 unfold upOk at h
 rw [Bool.and_eq_true] at h
 have := of_decide_eq_true h.1
 omega
theorem badE_ok (nodes : Int) (up : List Bool) (src : Int) (l : List S40) (e : S40) : badE nodes up src l e = false ↔ edgeOk nodes up src e = true ∧ (nextOf l e.f0).length ≤ 8 := by
 unfold badE edgeOk
 cases upOk nodes up e.f0 <;> cases upOk nodes up e.f1 <;> simp
 constructor
 · rintro ⟨h1, h2, h3⟩
   exact ⟨⟨h1, h2⟩, by omega⟩
 · rintro ⟨⟨h1, h2⟩, h3⟩
   exact ⟨h1, h2, by omega⟩
theorem rowR_iff (nodes : Int) (up : List Bool) (src : Int) (l : List S40) : RowR nodes up src l ↔ RowP nodes up src l := by
 constructor
 · rintro ⟨h1, h2, h3, h4⟩
   have hin : ∀ e ∈ l, edgeOk nodes up src e = true := by
    intro e he
    obtain ⟨j, hj0, hj1, rfl⟩ := memE_rd he
    exact h2 j hj0 hj1
   have hup : ∀ e ∈ l, (0 ≤ e.f0 ∧ e.f0 < nodes) ∧ (0 ≤ e.f1 ∧ e.f1 < nodes) := by
    intro e he
    have := hin e he
    unfold edgeOk at this
    simp only [Bool.and_eq_true] at this
    exact ⟨upOk_in this.1, upOk_in this.2.1⟩
   refine ⟨h1, ?_, ?_, ?_, ?_⟩
   · intro j hj0 hj1 hj2 hlt
     have h := h3 j hj1 hj2
     rw [ordOf_lt] at hlt
     unfold ltE at h hlt
     omega
   · intro j hj1 hj2 he
     have h := h3 j hj1 hj2
     rw [he] at h
     unfold ltE at h
     omega
   · rw [List.any_eq_false]
     intro e he
     rw [Bool.not_eq_true, badE_ok]
     exact ⟨hin e he, (h4 e.f0 (hup e he).1.1 (hup e he).1.2).1⟩
   · intro ho
     obtain ⟨n, hn, hnn⟩ := (TopoMath.order_none _ _).1 ho
     have hb : 0 ≤ n ∧ n < nodes := by
      rcases (TopoMath.mem_nodes _ _).1 hn with ⟨e, he, rfl⟩ | ⟨e, he, rfl⟩
      · exact (hup e he).1
      · exact (hup e he).2
     exact (h4 n hb.1 hb.2).2 hnn
 · rintro ⟨h1, h2, h3, h4, h5⟩
   rw [List.any_eq_false] at h4
   have hok : ∀ e ∈ l, edgeOk nodes up src e = true ∧ (nextOf l e.f0).length ≤ 8 := by
    intro e he
    have := h4 e he
    rw [Bool.not_eq_true, badE_ok] at this
    exact this
   refine ⟨h1, fun j hj0 hj1 => (hok _ (rdE_mem l j hj0 hj1)).1, fun j hj1 hj2 => ?_, fun n hn0 hn1 => ⟨?_, ?_⟩⟩
   · have ha := h2 j (by omega) hj1 hj2
     have hb := h3 j hj1 hj2
     rw [ordOf_lt] at ha
     generalize rd_T40 l j = x at ha hb
     generalize rd_T40 l (j - 1) = y at ha hb
     obtain ⟨a, b⟩ := x
     obtain ⟨c, d⟩ := y
     unfold ltE at ha ⊢
     have hb : ¬ (a = c ∧ b = d) := fun h => hb (by rw [h.1, h.2])
     simp only at ha ⊢
     omega
   · by_cases he : ∃ e ∈ l, e.f0 = n
     · obtain ⟨e, he, rfl⟩ := he
       exact (hok e he).2
     · have : nextOf l n = [] := by
        rw [List.eq_nil_iff_forall_not_mem]
        intro y hy
        obtain ⟨e, h1, h2, _⟩ := (TopoMath.mem_next (fun e : S40 => e.f0) (fun e => e.f1)).1 hy
        exact he ⟨e, h1, h2⟩
       rw [this]
       exact Nat.zero_le _
   · intro hr
     apply h5
     refine (TopoMath.order_none _ _).2 ⟨n, ?_, hr⟩
     have hp := (TopoMath.mem_reach (fun e : S40 => e.f0) (fun e => e.f1)).1 hr
     obtain ⟨e, he, h⟩ := List.mem_map.1 hp.head
     exact (TopoMath.mem_nodes _ _).2 (.inl ⟨e, he, h⟩)
end Go.Proofs.Ytkkfpmgmicfkfaa.X
