/- Joined by wip/tools/pack.py out of texts of this session's own. -/
import Derived.Test.YtkkfpmgmicfkfaaWWords
import Derived.Test.YtkkfpmgmicfkfaaWLast
import Derived.Test.YtkkfpmgmicfkfaaWQPut
import Derived.Test.YtkkfpmgmicfkfaaWApart
import Derived.Test.YtkkfpmgmicfkfaaWArr
import Derived.Test.YtkkfpmgmicfkfaaWZeros
import Derived.Test.YtkkfpmgmicfkfaaWFoot
import Derived.Test.YtkkfpmgmicfkfaaWKept
import Derived.Test.YtkkfpmgmicfkfaaWShare
import Derived.Test.YtkkfpmgmicfkfaaWN
import Derived.Test.YtkkfpmgmicfkfaaWNEv
import Derived.Test.YtkkfpmgmicfkfaaWMore
import Derived.Test.YtkkfpmgmicfkfaaWTab
import Derived.Test.YtkkfpmgmicfkfaaWEqStruct
import Derived.Test.YtkkfpmgmicfkfaaWRepsOne
import Derived.Test.YtkkfpmgmicfkfaaWInv
import Derived.Test.YtkkfpmgmicfkfaaWGuard
import Derived.Deep.RegionHeld3
import Derived.StillTail
import Derived.KernelRfl
import Derived.Lib.OwnBridge
import Derived.Sort.Grow
import Derived.OrdersHeld
import Derived.Laws.BitsLemmas
import Derived.RowKit
import Derived.Below
import Derived.Deep.Draws
import Derived.Deep.AppendLies
import Derived.Maps.AppendAt
import Derived.OwnWalk
import Derived.Laws.BytesArg
import Derived.Laws.MakeOwn
import Derived.Laws.OwnMore
import Derived.Deep.OwnRows
import Derived.Tactics
import Derived.Lib.ConvBytes
import Derived.Laws.Slices
import Derived.WalkKit
import Derived.RowKit3
import Derived.Deep.LoopGhost
import Derived.Deep.QuietTactic
import Derived.BigQuiet
import Derived.WideLaws
import Derived.Deep.DeepCutAuto
import Derived.Deep.CutBlock
import Derived.Laws.Rows
import Derived.Lib.AppendStr
import Derived.ArgAppend
import Derived.Laws.IdiomCopy
import Derived.Test.YtkkfpmgmicfkfaaProg
import Derived.Laws.StructEq
import Derived.Shelf.Sort.Plain
import Derived.Ground.Names2Prog
import Derived.Shelf.Slices.Clone
import Derived.Shelf.Slices.CompactI
import Derived.Shelf.Slices.SearchI
import Derived.Shelf.Slices.Delete
import Derived.Shelf.Slices.Cells
import Derived.Shelf.Slices.In.SortNone
import Derived.Shelf.Slices.Empties
import Derived.Ground.SlgnProg
import Derived.Shelf.SlicesE.Clone
import Derived.WalkSpells
import Derived.Outline
import Derived.Deep.RegionLaw
import Derived.BigRegion
import Derived.IntWalk
import Derived.Deep.DeepFit
set_option linter.unusedVariables false
/- A region of open order whose last operation waits for all the others and may write what they read: what is held is held up to that one. -/
namespace Go.Proofs.Ytkkfpmgmicfkfaa.Until
open Go
section
variable {P : Program} {md : Region.Mode} {ops : Array Oper} {Q : Exit → Act → World → Prop} {S : World → Prop} {s : Nat}
/-- Whatever order is picked from here on; behind every operation ahead of number s the world meets S. -/
def AnyU (P : Program) (md : Region.Mode) (ops : Array Oper) (Q : Exit → Act → World → Prop) (S : World → Prop) (s : Nat) : Nat → Array Bool → Act → World → Prop
 | 0, listed, a, w => Region.ready md ops listed = [] ∧ Q .normal a w
 | n + 1, listed, a, w => (Region.ready md ops listed = [] → Q .normal a w) ∧ ∀ i ∈ Region.ready md ops listed, wpOp P ops Q i (fun a' w' => (i < s → S w') ∧ AnyU P md ops Q S s n (listed.setIfInBounds i true) a' w') a w
theorem any_of : ∀ (n : Nat) (listed : Array Bool) (a : Act) (w : World), AnyU P md ops Q S s n listed a w → wpAny P md ops Q n listed a w
 | 0, _, _, _, h => h
 | n + 1, _, _, _, h => ⟨h.1, fun i hi => wpOp_mono (fun _ _ h' => any_of n _ _ _ h'.2) (h.2 i hi)⟩
theorem first {i : Nat} {oi : Oper} {v : Value} (hi : ops[i]? = some oi) (hsel : ∀ (j : Nat) (o : Oper) cs b, ops[j]? = some o → o.op ≠ .select cs b) (hw : ((List.range ops.size).all fun j => decide (j < s) || Region.waitsFor md ops j i) = true)
 (hQ : ∀ c a w, Q (.panic c) (a.put oi.dst v) w → Q (.panic c) a w) : ∀ (n : Nat) (listed : Array Bool) (a : Act) (w : World),
  (∀ j oj, ops[j]? = some oj → j ≠ i → listed.getD j true = false → (∀ e ∈ oj.after, Region.binds md e = true → e.on ≠ i) → oi.apart ops oj = true) →
  i ∈ Region.ready md ops listed → YieldsIf P ops S oi v a → S w → AnyU P md ops Q S s n (listed.setIfInBounds i true) (a.put oi.dst v) w → AnyU P md ops Q S s (n + 1) listed a w := by
 intro n
 induction n with
 | zero =>
  intro listed a w _ hr hy hS H
  refine ⟨fun h => (by rw [h] at hr; cases hr), fun j hj => ?_⟩
  by_cases e : j = i
  · subst e
    exact hy.wpOp hi hS ⟨fun _ => hS, H⟩
  · have h1 := ready_mono hj e
    rw [H.1] at h1
    cases h1
 | succ n ih =>
  intro listed a w hfree hr hy hS H
  refine ⟨fun h => (by rw [h] at hr; cases hr), fun j hj => ?_⟩
  by_cases e : j = i
  · subst e
    exact hy.wpOp hi hS ⟨fun _ => hS, H⟩
  obtain ⟨hun, oj, hoj, hall⟩ := mem_ready.1 hj
  have hno : ∀ x ∈ oj.after, Region.binds md x = true → x.on ≠ i := fun x hx hb he => by
   have h1 := hall x hx hb
   have h0 := (mem_ready.1 hr).1
   rw [he, getD_both h0] at h1
   cases h1
  have hjs : j < s := by
   have hjl : j < ops.size := (Array.getElem?_eq_some_iff.1 hoj).1
   have h0 := List.all_eq_true.1 hw j (List.mem_range.2 hjl)
   rcases Nat.lt_or_ge j s with h1 | h1
   · exact h1
   · rw [decide_eq_false (by omega), Bool.false_or] at h0
     obtain ⟨o', ho', x, hx, hb, hon⟩ := Region.waitsFor_spec h0
     have e' : o' = oj := Option.some.inj (ho'.symm.trans hoj)
     subst e'
     exact absurd hon (hno x hx hb)
  have h2 := wpOp_putIf hoj (hfree j oj hoj e hun hno) (fun cs b => hsel i oi cs b hi) (fun cs b => hsel j oj cs b hoj) hQ hy (H.2 j (ready_mono hj e))
  refine wpOp_mono (fun a' w' h3 => ?_) h2
  refine ⟨h3.2.1, ih _ a' w' (fun k ok hk hki hkl hkn => hfree k ok hk hki ?_ hkn) (ready_mono hr (Ne.symm e)) h3.1 (h3.2.1 hjs) ?_⟩
  · by_cases ejk : j = k
    · subst ejk
      exact hun
    · rwa [getD_set_ne true ejk] at hkl
  · rw [Array.setIfInBounds_comm _ _ e]
    exact h3.2.2
theorem at_drop {i : Nat} {oi : Oper} {r : List Oper} (h : ops.toList.drop i = oi :: r) : ops[i]? = some oi := by
 rw [← Array.getElem?_toList]
 have h1 : (ops.toList.drop i)[0]? = some oi := by rw [h]; rfl
 rwa [List.getElem?_drop, Nat.add_zero] at h1
/-- Number i is taken first. -/
theorem take {i : Nat} {oi : Oper} {r : List Oper} {v : Value} {n : Nat} {listed : Array Bool} {a : Act} {w : World} (hi : ops.toList.drop i = oi :: r) (hs : Region.noSelect ops = true) (hf : Region.free md ops listed i = true) (hr : (Region.ready md ops listed).contains i = true) (hw : ((List.range ops.size).all fun j => decide (j < s) || Region.waitsFor md ops j i) = true)
 (hQ : ∀ c a w, Q (.panic c) (a.put oi.dst v) w → Q (.panic c) a w) (hy : YieldsIf P ops S oi v a) (hS : S w) (h : AnyU P md ops Q S s n (listed.setIfInBounds i true) (a.put oi.dst v) w) : AnyU P md ops Q S s (n + 1) listed a w :=
 first (at_drop hi) (Region.noSelect_spec hs) hw hQ n listed a w (Region.free_spec (at_drop hi) hf) (by simpa using hr) hy hS h
/-- Number i alone may come up. -/
theorem only {i : Nat} {oi : Oper} {r : List Oper} {n : Nat} {listed : Array Bool} {a : Act} {w : World} (hi : ops.toList.drop i = oi :: r) (hr : Region.ready md ops listed = [i])
 (h : ∀ K : Act → World → Prop, Shut (∀ a' w', (i < s → S w') → ((i < s → S w') → AnyU P md ops Q S s n (listed.setIfInBounds i true) a' w') → K a' w') → if Region.wanted oi (yielded ops a.tmps) = true then Oper.wp P oi a w K Q else K (a.put oi.dst undef) w) : AnyU P md ops Q S s (n + 1) listed a w := by
 refine ⟨fun h0 => (by rw [hr] at h0; cases h0), fun j hj => ?_⟩
 rw [hr, List.mem_singleton] at hj
 subst hj
 exact wpOp_step (at_drop hi) (fun K hK => h K (fun a' w' h1 h2 => hK a' w' ⟨h1, h2 h1⟩))
theorem done {listed : Array Bool} {a : Act} {w : World} (hr : Region.ready md ops listed = []) (h : Q .normal a w) : ∀ n, AnyU P md ops Q S s n listed a w
 | 0 => ⟨hr, h⟩
 | _ + 1 => ⟨fun _ => h, by rw [hr]; simp⟩
theorem region {id : Nat} {a : Act} {w : World} (s : Nat) (hm : P.follows .mixedOrders = true) (hS : S w.drew) (h : S w.drew → AnyU P .any ops Q S s ops.size (Array.replicate ops.size false) a w.drew) : (Code.region id ops true).wp P Q a w :=
 wp_region_any hm (any_of _ _ _ _ (h hS))
end
end Go.Proofs.Ytkkfpmgmicfkfaa.Until
/- Rows of one cell an element, between the print's words (Kd.R) and the library's sort (Holds, putRow). -/
namespace Go.Proofs.Ytkkfpmgmicfkfaa.Rows1
open Go.RowKit Go.Proofs.YtkkfpmgmicfkfaaW.PrintWords Go.Proofs.YtkkfpmgmicfkfaaW.PrintLast Go.Proofs.YtkkfpmgmicfkfaaW.PrintMore Go.Sort
variable {α : Type} [Inhabited α] {enc : α → Value} {h1 : ∀ x, (enc x).oneCell' = true} {e : Nat} {w : World} {base : Nat} {ok : Nat → Prop} {v : Value} {zs : List α}
omit [Inhabited α] in
/-- A row of the call's own is nil, or lies somewhere. -/
theorem R_cases (h : (Kd.scalar enc h1).R e w base ok v zs) : (v = .slice none 0 0 ∧ zs = []) ∨ ∃ g cap, v = .slice (some ⟨g, 0, none⟩) zs.length cap := by
 have ho := Kd.own_of_R h
 rcases ho.2 with ⟨e0, e1⟩ | ⟨g, cap, cur, e0, _⟩
 · exact .inl ⟨e0, List.length_eq_zero_iff.1 e1⟩
 · exact .inr ⟨g, cap, e0⟩
theorem R_holds {g cap n : Nat} (h : (Kd.scalar enc h1).R e w base ok (.slice (some ⟨g, 0, none⟩) n cap) zs) :
 base ≤ g ∧ g < w.heap.size ∧ zs.length ≤ cap ∧ cap ≤ maxLen ∧ zs.length = n ∧ Holds enc w g 0 zs.toArray := by
 have ho := Kd.own_of_R h
 obtain ⟨g', cap', hv, hb, hlt, hn, hm, _, hH⟩ := Lib.holds_of_ownsRow (n := zs.length) ho (by intro h; cases h)
 injection hv with h1 h2 h3
 injection h1 with h1
 injection h1 with h1
 subst h1; subst h3
 exact ⟨hb, hlt, hn, hm, h2.symm, hH⟩
/-- What the sort and its kin leave: the row holds ys; it is cut to k. -/
theorem R_put {g cap q k : Nat} {ys : List α} {os : Array Obj} (h : (Kd.scalar enc h1).R e w base ok (.slice (some ⟨g, 0, none⟩) zs.length cap) zs) (hy : ys.length = zs.length) (hk : k ≤ zs.length) :
 (Kd.scalar enc h1).R e (grow (putRow enc (Sort.ahead w q) g 0 ys.toArray) os) base ok (.slice (some ⟨g, 0, none⟩) k cap) (ys.take k) ∧ w.grownBy (grow (putRow enc (Sort.ahead w q) g 0 ys.toArray) os) (some g) := by
 have hg : w.grownBy (grow (putRow enc (Sort.ahead w q) g 0 ys.toArray) os) (some g) := by
  refine ⟨rfl, rfl, rfl, ?_, fun k hk hne => ?_⟩
  · simp [grow, putRow, mapBlock, Sort.ahead]
  · have : g ≠ k := fun e => hne (by rw [e])
    rw [heap_grow_old _ _ (by simpa [putRow, mapBlock, Sort.ahead] using hk)]
    simp [putRow, mapBlock, Sort.ahead, Array.getElem?_modify, this]
 refine ⟨?_, hg⟩
 have ho := Lib.ownsRow_putRow (q := q) (k := k) (ys := ys) (Kd.own_of_R h) hy hk
 have ht : (ys.take k).length = k := by rw [List.length_take]; omega
 have hlt : g < w.heap.size := (R_holds h).2.1
 have ho2 : (grow (putRow enc (Sort.ahead w q) g 0 ys.toArray) os).ownsRow base e 1 (.slice (some ⟨g, 0, none⟩) k cap) (ys.take k).length (encs enc (ys.take k)) := by
  rw [ht]
  obtain ⟨h1, h2⟩ := ho
  refine ⟨h1, ?_⟩
  rcases h2 with ⟨e0, _⟩ | ⟨g', cap', cur, e0, hb, hg', r⟩
  · cases e0
  · refine .inr ⟨g', cap', cur, e0, hb, ?_, r⟩
    injection e0 with e1
    injection e1 with e1
    injection e1 with e1
    subst e1
    rw [heap_grow_old _ _ (by simpa [putRow, mapBlock, Sort.ahead] using hlt)]
    exact hg'
 refine Kd.R_of_own ho2 (fun k' hk' => ?_)
 exact h.1 k' hk'
omit [Inhabited α] in
/-- Two rows that lie apart: told of the other one, too. -/
theorem R_apart {u : Value} {ys : List α} (h : (Kd.scalar enc h1).R e w base ok v zs) (ho : (Kd.scalar enc h1).R e w base (fun k => some k ≠ v.ownBlock) u ys) : (Kd.scalar enc h1).R e w base (fun k => some k ≠ u.ownBlock) v zs :=
 Kd.R_of_own (Kd.own_of_R h) (fun k hk ek => ho.1 k ek.symm hk.symm)
/-- Element i of a row of rows. -/
def rdr {β : Type} (xs : List (List β)) (i : Int) : List β := xs.getD i.toNat []
theorem at_rows {β : Type} {d : Kd β} {e : Nat} {w : World} {A : Option Addr} {n : Nat} {xs : List (List β)} (h : Kd.C (Kd.slice e d) w A n xs) (i : Int) (h0 : 0 ≤ i) (h1 : i < n) :
 ∃ ad A0 c0, A = some ad ∧ w.cell? (ad.add i.toNat) = some (.slice A0 (rdr xs i).length c0) ∧ (rdr xs i).length ≤ c0 ∧ d.C w A0 (rdr xs i).length (rdr xs i) := by
 obtain ⟨ad, c, e, _, hK, hc0⟩ := Kd.C_get h ([] : List β) i h0 h1
 have hc : ∀ j u, c[j]? = some u → w.cell? (ad.add (i.toNat * 1 + j)) = some u := hc0
 obtain ⟨A0, c0, rfl, l0, g0⟩ := hK
 exact ⟨ad, A0, c0, e, by have hq := hc 0 _ rfl; rwa [Nat.mul_one, Nat.add_zero] at hq, l0, g0⟩
/-! ### Rows of slices as rows of their heads -/
/-- A slice's head: where, how many, how much room. -/
abbrev Hd := Option Addr × Nat × Nat
def hv (p : Hd) : Value := .slice p.1 p.2.1 p.2.2
def hdr : Kd Hd := Kd.scalar hv (fun _ => rfl)
theorem exists_list {β : Type} {n : Nat} {P : Nat → β → Prop} (h : ∀ j, j < n → ∃ b, P j b) : ∃ l : List β, l.length = n ∧ ∀ j (hj : j < l.length), P j l[j] := by
 induction n with
 | zero => exact ⟨[], rfl, fun j hj => by simp at hj⟩
 | succ n ih =>
  obtain ⟨l, hl, hp⟩ := ih (fun j hj => h j (by omega))
  obtain ⟨b, hb⟩ := h n (by omega)
  refine ⟨l ++ [b], by simp [hl], fun j hj => ?_⟩
  by_cases hjl : j < l.length
  · rw [List.getElem_append_left hjl]
    exact hp j hjl
  · have : j = n := by simp at hj; omega
    subst this
    rw [List.getElem_append_right (by omega)]
    simpa [hl] using hb
/-- What is told of a slice's head and of what it leads to. -/
def Leads {β : Type} (d : Kd β) (w : World) (p : Hd) (x : List β) : Prop := p.2.1 = x.length ∧ x.length ≤ p.2.2 ∧ d.C w p.1 x.length x
theorem Leads.below {β : Type} {d : Kd β} {w w1 : World} {p : Hd} {x : List β} (h : Leads d w p x) (hb : Below w.heap.size w w1) : Leads d w1 p x := ⟨h.1, h.2.1, Kd.C_below h.2.2 hb⟩
theorem heads_of_C {β : Type} {d : Kd β} {e : Nat} {w : World} {A : Option Addr} {xs : List (List β)} (h : Kd.C (Kd.slice e d) w A xs.length xs) :
 ∃ hs : List Hd, hs.length = xs.length ∧ hdr.C w A xs.length hs ∧ ∀ j (hj : j < hs.length) (hx : j < xs.length), Leads d w hs[j] xs[j] := by
 obtain ⟨_, hl, hc⟩ := h
 rcases Nat.eq_zero_or_pos xs.length with h0 | hp
 · refine ⟨[], by simp [h0], ⟨by simp [h0], hl, fun h => absurd h (by omega)⟩, fun j hj => by simp at hj⟩
 · obtain ⟨ad, rfl, hc2⟩ := hc hp
   have hex : ∀ j, j < xs.length → ∃ p : Hd, w.cell? (ad.add j) = some (hv p) ∧ Leads d w p (xs.getD j []) := by
    intro j hj
    have hg : xs[j]? = some (xs.getD j []) := by rw [List.getD_eq_getElem?_getD, List.getElem?_eq_getElem hj]; rfl
    obtain ⟨c, hcs, ⟨A0, c0, hv0, hle, hC⟩, hcell⟩ := hc2 j _ hg
    subst hv0
    refine ⟨(A0, (xs.getD j []).length, c0), ?_, rfl, hle, hC⟩
    have := hcell 0 _ rfl
    simpa [Kd.slice, hv] using this
   obtain ⟨hs, hsl, hs2⟩ := exists_list hex
   refine ⟨hs, hsl, ⟨hsl, hl, fun _ => ⟨ad, rfl, fun j p hj => ?_⟩⟩, fun j hj hx => ?_⟩
   · obtain ⟨hjl, rfl⟩ := List.getElem?_eq_some_iff.1 hj
     refine ⟨[hv hs[j]], rfl, rfl, fun i u hu => ?_⟩
     cases i with
     | zero =>
      simp at hu
      subst hu
      simpa [hdr, Kd.scalar] using (hs2 j hjl).1
     | succ i => simp at hu
   · have := (hs2 j hj).2
     simpa [List.getD_eq_getElem?_getD, hx] using this
end Go.Proofs.Ytkkfpmgmicfkfaa.Rows1
/- Printed by a program of this session's own (wip/tools/xprint.py) out of the translation: functions as plain Lean, and their walks. -/
namespace Go.Proofs.Ytkkfpmgmicfkfaa.X
open Go.RowKit Go.Proofs.YtkkfpmgmicfkfaaW.PrintWords Go.Proofs.YtkkfpmgmicfkfaaW.PrintLast Go.Proofs.YtkkfpmgmicfkfaaW.PrintMore
attribute [local go_sem] max2_int min2_int max_two min_two max_three min_three max_four min_four   -- for this text's walks alone
set_option linter.unusedVariables false
set_option linter.unusedSimpArgs false
def errW : Option Int → Value
 | none => .nilIface
 | some c => .iface 0 (.int .i64 c)
theorem errW_none : errW none = .nilIface := rfl
theorem errW_some (c : Int) : errW (some c) = .iface 0 (.int .i64 c) := rfl
theorem info3 : (Try.prog.info? 3).map (fun i => (i.zero, i.size, i.bytes)) = some (some (.int .i64 0), 1, 8) := by kernel_rfl
theorem info4 : (Try.prog.info? 4).map (fun i => (i.zero, i.size, i.bytes)) = some (some (.bool false), 1, 1) := by kernel_rfl
theorem info38 : (Try.prog.info? 38).map (fun i => (i.zero, i.size, i.bytes)) = some (some (.slice none 0 0), 1, 24) := by kernel_rfl
theorem info40 : (Try.prog.info? 40).map (fun i => (i.zero, i.size, i.bytes)) = some (some (.agg #[(.int .i64 0), (.int .i64 0)]), 2, 16) := by kernel_rfl
/-! #### struct type 77 -/
structure S77 where
 f0 : Int
 f1 : Int
 f2 : Int
def z77 : S77 := ⟨(0 : Int), (0 : Int), (0 : Int)⟩
def k77 : Kd S77 := Kd.iso (Kd.pair (Kd.int .i64) (Kd.pair (Kd.int .u64) (Kd.int .u64))) (fun x : S77 => (x.f0, x.f1, x.f2))
def rd_T77 (xs : List S77) (i : Int) : S77 := xs.getD i.toNat z77
/-! #### struct type 40 -/
structure S40 where
 f0 : Int
 f1 : Int
def z40 : S40 := ⟨(0 : Int), (0 : Int)⟩
def k40 : Kd S40 := Kd.iso (Kd.pair (Kd.int .i64) (Kd.int .i64)) (fun x : S40 => (x.f0, x.f1))
theorem k40_heap : Kd.Heap k40 := Kd.heap_iso _ (Kd.heap_pair (Kd.heap_int .i64) (Kd.heap_int .i64))
theorem k40_open {w : World} {x : S40} {cs : List Value} (h : k40.K w x cs) : cs = [.int .i64 x.f0, .int .i64 x.f1] := by
 obtain ⟨_, _, rfl, rfl, rfl⟩ := h
 exact rfl
theorem k40_mk (w : World) (x : S40)  : k40.K w x [.int .i64 x.f0, .int .i64 x.f1] := ⟨[.int .i64 x.f0], [.int .i64 x.f1], rfl, rfl, rfl⟩
theorem k40_mkM (w : World) (base : Nat) (ok : Nat → Prop) (x : S40)  : k40.M w base ok x [.int .i64 x.f0, .int .i64 x.f1] := ⟨[.int .i64 x.f0], [.int .i64 x.f1], rfl, rfl, rfl⟩
def rd_T40 (xs : List S40) (i : Int) : S40 := xs.getD i.toNat z40
theorem at_T40 {w : World} {A : Option Addr} {n : Nat} {xs : List S40} (h : Kd.C k40 w A n xs) (i : Int) (h0 : 0 ≤ i) (h1 : i < n) : ∃ ad , A = some ad ∧ w.cell? (ad.add (i.toNat * 2)) = some (.int .i64 (rd_T40 xs i).f0) ∧ w.cell? ⟨(ad.add (i.toNat * 2)).block, (ad.add (i.toNat * 2)).off + 1, none⟩ = some (.int .i64 (rd_T40 xs i).f1) := by
 obtain ⟨ad, c, e, _, hK, hc0⟩ := Kd.C_get h z40 i h0 h1
 have hc : ∀ j u, c[j]? = some u → w.cell? (ad.add (i.toNat * 2 + j)) = some u := hc0
 obtain rfl := k40_open hK
 exact ⟨ad, e, hc 0 _ rfl, by rw [← add_field _ _ 1 (by omega)]; exact hc 1 _ rfl⟩
def rd_L5 (xs : List (List S40)) (i : Int) : (List S40) := xs.getD i.toNat ([] : List S40)
theorem at_L5 {w : World} {A : Option Addr} {n : Nat} {xs : List (List S40)} (h : Kd.C (Kd.slice 40 k40) w A n xs) (i : Int) (h0 : 0 ≤ i) (h1 : i < n) : ∃ ad A0 c0, A = some ad ∧ w.cell? (ad.add i.toNat) = some (.slice A0 (rd_L5 xs i).length c0) ∧ (rd_L5 xs i).length ≤ c0 ∧ k40.C w A0 (rd_L5 xs i).length (rd_L5 xs i) := by
 obtain ⟨ad, c, e, _, hK, hc0⟩ := Kd.C_get h ([] : List S40) i h0 h1
 have hc : ∀ j u, c[j]? = some u → w.cell? (ad.add (i.toNat * 1 + j)) = some u := hc0
 obtain ⟨A0, c0, rfl, l0, g0⟩ := hK
 exact ⟨ad, A0, c0, e, by have hq := hc 0 _ rfl; rwa [Nat.mul_one, Nat.add_zero] at hq, l0, g0⟩
/-! #### struct type 29 -/
structure S29 where
 f0 : Int
 f1 : (List Bool)
 f2 : (List (List S40))
def k29 : Kd S29 := Kd.iso (Kd.pair (Kd.int .u64) (Kd.pair (Kd.slice 4 Kd.bool) (Kd.slice 38 (Kd.slice 40 k40)))) (fun x : S29 => (x.f0, x.f1, x.f2))
theorem k29_open {w : World} {x : S29} {cs : List Value} (h : k29.K w x cs) : ∃ A1 c1 A2 c2, cs = [.int .u64 x.f0, .slice A1 x.f1.length c1, .slice A2 x.f2.length c2] ∧ x.f1.length ≤ c1 ∧ Kd.bool.C w A1 x.f1.length x.f1 ∧ x.f2.length ≤ c2 ∧ (Kd.slice 40 k40).C w A2 x.f2.length x.f2 := by
 obtain ⟨_, _, rfl, rfl, ⟨_, _, rfl, ⟨A1, c1, rfl, l1, g1⟩, ⟨A2, c2, rfl, l2, g2⟩⟩⟩ := h
 exact ⟨A1, c1, A2, c2, rfl, l1, g1, l2, g2⟩
/-! #### struct type 124 -/
structure S124 where
 f0 : Int
 f1 : Int
 f2 : Int
 f3 : (List Int)
def z124 : S124 := ⟨(0 : Int), (0 : Int), (0 : Int), ([] : List Int)⟩
def k124 : Kd S124 := Kd.iso (Kd.pair (Kd.int .i64) (Kd.pair (Kd.int .i64) (Kd.pair (Kd.int .i64) (Kd.slice 3 (Kd.int .i64))))) (fun x : S124 => (x.f0, x.f1, x.f2, x.f3))
theorem k124_open {w : World} {x : S124} {cs : List Value} (h : k124.K w x cs) : ∃ A3 c3, cs = [.int .i64 x.f0, .int .i64 x.f1, .int .i64 x.f2, .slice A3 x.f3.length c3] ∧ x.f3.length ≤ c3 ∧ (Kd.int .i64).C w A3 x.f3.length x.f3 := by
 obtain ⟨_, _, rfl, rfl, ⟨_, _, rfl, rfl, ⟨_, _, rfl, rfl, ⟨A3, c3, rfl, l3, g3⟩⟩⟩⟩ := h
 exact ⟨A3, c3, rfl, l3, g3⟩
def rd_T124 (xs : List S124) (i : Int) : S124 := xs.getD i.toNat z124
theorem at_T124 {w : World} {A : Option Addr} {n : Nat} {xs : List S124} (h : Kd.C k124 w A n xs) (i : Int) (h0 : 0 ≤ i) (h1 : i < n) : ∃ ad A3 c3, A = some ad ∧ w.cell? (ad.add (i.toNat * 4)) = some (.int .i64 (rd_T124 xs i).f0) ∧ w.cell? ⟨(ad.add (i.toNat * 4)).block, (ad.add (i.toNat * 4)).off + 1, none⟩ = some (.int .i64 (rd_T124 xs i).f1) ∧ w.cell? ⟨(ad.add (i.toNat * 4)).block, (ad.add (i.toNat * 4)).off + 2, none⟩ = some (.int .i64 (rd_T124 xs i).f2) ∧ w.cell? ⟨(ad.add (i.toNat * 4)).block, (ad.add (i.toNat * 4)).off + 3, none⟩ = some (.slice A3 (rd_T124 xs i).f3.length c3) ∧ (rd_T124 xs i).f3.length ≤ c3 ∧ (Kd.int .i64).C w A3 (rd_T124 xs i).f3.length (rd_T124 xs i).f3 := by
 obtain ⟨ad, c, e, _, hK, hc0⟩ := Kd.C_get h z124 i h0 h1
 have hc : ∀ j u, c[j]? = some u → w.cell? (ad.add (i.toNat * 4 + j)) = some u := hc0
 obtain ⟨A3, c3, rfl, l3, g3⟩ := k124_open hK
 exact ⟨ad, A3, c3, e, hc 0 _ rfl, by rw [← add_field _ _ 1 (by omega)]; exact hc 1 _ rfl, by rw [← add_field _ _ 2 (by omega)]; exact hc 2 _ rfl, by rw [← add_field _ _ 3 (by omega)]; exact hc 3 _ rfl, l3, g3⟩
end Go.Proofs.Ytkkfpmgmicfkfaa.X
/-
 DERIVED: THE SHELF's CONTRACTS AT THIS DUMP, IN PLAIN WORDS (tools/lay-plain.mjs out of 'TryShelf.lean', which tools/lay-shelf.mjs wrote): THE SAME DECLARATIONS UNDER THE SAME NAMES: 'import', 'namespace', 'open', 'def', 'theorem' AND NOTHING ELSE: no command of the shelf's: FOR A HAND-IN. Each laying: the table of numbers ('.._ren') and one theorem, a field a fact of the dump's own or the kernel's comparison; each contract: ONE APPLICATION.
-/
namespace Go.Proofs
open Go.Shelf
def Try.lays189_ren : Go.Shelf.Ren := ⟨fun | 189 => 71 | 125 => 127 | 257 => 126 | 128 => 148 | 129 => 149 | 294 => 139 | 295 => 140 | 296 => 141 | 297 => 142 | 298 => 143 | 299 => 144 | 216 => 145 | 300 => 146 | 301 => 147 | 328 => 154 | 329 => 155 | 330 => 156 | 331 => 157 | 332 => 158 | 215 => 150 | 343 => 160 | n => n, fun | 28 => 31 | 3 => 3 | 46 => 161 | 0 => 0 | 51 => 53 | 53 => 25 | 4 => 4 | 183 => 172 | 182 => 171 | 131 => 157 | 5 => 5 | 9 => 9 | 218 => 183 | 222 => 186 | 228 => 188 | 229 => 189 | n => n, fun | n => n⟩
theorem Try.lays189 : Go.Proofs.Lays.n189 Try.prog Try.lays189_ren := {
 mixed := by kernel_rfl
 f125 := Try.func127.trans (congrArg some (by kernel_rfl))
 f128 := Try.func148.trans (congrArg some (by kernel_rfl))
 f129 := Try.func149.trans (congrArg some (by kernel_rfl))
 f189 := Try.func71.trans (congrArg some (by kernel_rfl))
 f215 := Try.func150.trans (congrArg some (by kernel_rfl))
 f216 := Try.func145.trans (congrArg some (by kernel_rfl))
 f257 := Try.func126.trans (congrArg some (by kernel_rfl))
 f294 := Try.func139.trans (congrArg some (by kernel_rfl))
 f295 := Try.func140.trans (congrArg some (by kernel_rfl))
 f296 := Try.func141.trans (congrArg some (by kernel_rfl))
 f297 := Try.func142.trans (congrArg some (by kernel_rfl))
 f298 := Try.func143.trans (congrArg some (by kernel_rfl))
 f299 := Try.func144.trans (congrArg some (by kernel_rfl))
 f300 := Try.func146.trans (congrArg some (by kernel_rfl))
 f301 := Try.func147.trans (congrArg some (by kernel_rfl))
 f328 := Try.func154.trans (congrArg some (by kernel_rfl))
 f329 := Try.func155.trans (congrArg some (by kernel_rfl))
 f330 := Try.func156.trans (congrArg some (by kernel_rfl))
 f331 := Try.func157.trans (congrArg some (by kernel_rfl))
 f332 := Try.func158.trans (congrArg some (by kernel_rfl))
 f343 := Try.func160.trans (congrArg some (by kernel_rfl))
 t0 := Try.underlying0
 a0 := Try.isAgg0
 z0 := Try.sizeOf0
 v0 := Try.zeroValue0
 t3 := Try.underlying3
 a3 := Try.isAgg3
 z3 := Try.sizeOf3
 v3 := Try.zeroValue3
 t4 := Try.underlying4
 a4 := Try.isAgg4
 z4 := Try.sizeOf4
 v4 := Try.zeroValue4
 t5 := Try.underlying5
 a5 := Try.isAgg5
 z5 := Try.sizeOf5
 v5 := Try.zeroValue5
 t9 := Try.underlying9
 a9 := Try.isAgg9
 z9 := Try.sizeOf9
 v9 := Try.zeroValue9
 t28 := Try.underlying31
 a28 := Try.isAgg31
 z28 := Try.sizeOf31
 v28 := Try.zeroValue31
 t46 := Try.underlying161
 a46 := Try.isAgg161
 z46 := Try.sizeOf161
 v46 := Try.zeroValue161
 t51 := Try.underlying53
 a51 := Try.isAgg53
 z51 := Try.sizeOf53
 v51 := Try.zeroValue53
 t53 := Try.underlying25
 a53 := Try.isAgg25
 z53 := Try.sizeOf25
 v53 := Try.zeroValue25
 t131 := Try.underlying157
 a131 := Try.isAgg157
 z131 := Try.sizeOf157
 v131 := Try.zeroValue157
 t182 := Try.underlying171
 a182 := Try.isAgg171
 z182 := Try.sizeOf171
 v182 := Try.zeroValue171
 t183 := Try.underlying172
 a183 := Try.isAgg172
 z183 := Try.sizeOf172
 v183 := Try.zeroValue172
 t218 := Try.underlying183
 a218 := Try.isAgg183
 z218 := Try.sizeOf183
 v218 := Try.zeroValue183
 t222 := Try.underlying186
 a222 := Try.isAgg186
 z222 := Try.sizeOf186
 v222 := Try.zeroValue186
 t228 := Try.underlying188
 a228 := Try.isAgg188
 z228 := Try.sizeOf188
 v228 := Try.zeroValue188
 t229 := Try.underlying189
 a229 := Try.isAgg189
 z229 := Try.sizeOf189
 v229 := Try.zeroValue189 }
open Go.Sort Go.RowKit in
theorem Try.slices_Sort_int (blk off cap : Nat) (zs : List Int) (w : World) (hH : Holds (Value.int .i64) w blk off zs.toArray) (hblk : blk < w.heap.size) (hsz : zs.length < 4611686018427387904) :
 Calls Try.prog 71 #[.slice (some ⟨blk, off, none⟩) zs.length cap] w fun e w' =>
  e = .returned (.tuple #[]) ∧ ∃ n os, w' = grow (putRow (Value.int .i64) (Sort.ahead w n) blk off (zs.mergeSort fun x y => decide (x ≤ y)).toArray) os := Any.slices_Sort_int Try.lays189 blk off cap zs w hH hblk hsz
def Try.laysNm220_ren : Go.Shelf.Ren := ⟨fun | 20 => 72 | n => n, fun | 22 => 31 | 3 => 3 | 4 => 4 | 0 => 0 | n => n, fun | n => n⟩
theorem Try.laysNm220 : Go.Proofs.Lays2.n20 Try.prog Try.laysNm220_ren := {
 mixed := by kernel_rfl
 f20 := Try.func72.trans (congrArg some (by kernel_rfl))
 t0 := Try.underlying0
 a0 := Try.isAgg0
 z0 := Try.sizeOf0
 v0 := Try.zeroValue0
 t3 := Try.underlying3
 a3 := Try.isAgg3
 z3 := Try.sizeOf3
 v3 := Try.zeroValue3
 t4 := Try.underlying4
 a4 := Try.isAgg4
 z4 := Try.sizeOf4
 v4 := Try.zeroValue4
 t22 := Try.underlying31
 a22 := Try.isAgg31
 z22 := Try.sizeOf31
 v22 := Try.zeroValue31
 i3 := by kernel_rfl }
open Go.RowKit Go.Lib Go.Sort in
/-- slices.Compact at []int: "Compact replaces consecutive runs of equal elements with a single copy. This is like the uniq command found on Unix. Compact modifies the contents of the slice s and returns the modified slice, which may have a smaller length. Compact zeroes the elements between the new length and the original length. The result preserves the nilness of s.": IT RETURNS THE SLICE CUT TO 'Lib.compact zs'; ITS CELLS HOLD 'Lib.compact zs', THEN ZERO VALUES up to the old length; all else is as it was, but for the count of draws. IN THE WORDS OF slices.Sort's CONTRACT ('Holds', 'putRow'): so the everyday 'slices.Sort(xs); xs = slices.Compact(xs)' goes from the one contract to the other. It asks 'zs.length ≤ cap' (every slice's: the reslicing 's[:k]' looks at it). Length 0, nil: '.._empty'. (LAID: no walk: one application.) -/
theorem Try.slices_Compact_int (blk off cap : Nat) (zs : List Int) (w : World) (hH : Holds (Value.int .i64) w blk off zs.toArray) (hsz : zs.length ≤ 9223372036854775807) (hcap : zs.length ≤ cap) :
 Calls Try.prog 72 #[.slice (some ⟨blk, off, none⟩) zs.length cap] w fun e w' => e = .returned (.slice (some ⟨blk, off, none⟩) (Lib.compact zs).length cap) ∧ ∃ q, w' = putRow (Value.int .i64) (Sort.ahead w q) blk off (Lib.compact zs ++ List.replicate (zs.length - (Lib.compact zs).length) 0).toArray := Any.slices_Compact_int Try.laysNm220 blk off cap zs w hH hsz hcap
open Go.RowKit Go.Lib Go.Sort in
/-- The same at a slice of length 0, a nil one too: it comes back as it is. (LAID: no walk: one application.) -/
theorem Try.slices_Compact_int_empty (a : Option Addr) (cap : Nat) (w : World) :
 Calls Try.prog 72 #[.slice a 0 cap] w fun e w' => e = .returned (.slice a 0 cap) ∧ w' = w := Any.slices_Compact_int_empty Try.laysNm220 a cap w
def Try.laysNm223_ren : Go.Shelf.Ren := ⟨fun | 23 => 76 | n => n, fun | 22 => 31 | 3 => 3 | 4 => 4 | 0 => 0 | n => n, fun | n => n⟩
theorem Try.laysNm223 : Go.Proofs.Lays2.n23 Try.prog Try.laysNm223_ren := {
 mixed := by kernel_rfl
 f23 := Try.func76.trans (congrArg some (by kernel_rfl))
 t0 := Try.underlying0
 a0 := Try.isAgg0
 z0 := Try.sizeOf0
 v0 := Try.zeroValue0
 t3 := Try.underlying3
 a3 := Try.isAgg3
 z3 := Try.sizeOf3
 v3 := Try.zeroValue3
 t4 := Try.underlying4
 a4 := Try.isAgg4
 z4 := Try.sizeOf4
 v4 := Try.zeroValue4
 t22 := Try.underlying31
 a22 := Try.isAgg31
 z22 := Try.sizeOf31
 v22 := Try.zeroValue31
 i3 := by kernel_rfl }
open Go.RowKit Go.Lib Go.Sort in
/-- slices.Delete at []int: "Delete modifies s in place by removing the elements s[i:j], and returns the modified slice. Delete panics if j > len(s) or s[i:j] is not a valid slice of s. Delete is O(len(s)-i), so if many items must be deleted, it is better to make a single call deleting them all together than to delete one at a time. Delete zeroes the elements s[len(s)-(j-i):len(s)]. If the result is empty, it has the same nilness as s.": FOR i ≤ j ≤ len(s) IT RETURNS THE SLICE CUT TO len(s) - (j - i) ELEMENTS; ITS CELLS HOLD what stood ahead of i, what stood from j on, then j - i zero values; all else is as it was, but for the count of draws. IN THE WORDS OF slices.Sort's CONTRACT ('Holds', 'putRow'). It asks 'zs.length ≤ cap ≤ 2^63 - 1' (every slice's). (Outside i ≤ j ≤ len(s) it panics: no contract here.) (LAID: no walk: one application.) -/
theorem Try.slices_Delete_int (blk off cap i j : Nat) (zs : List Int) (w : World) (hH : Holds (Value.int .i64) w blk off zs.toArray) (hcap : zs.length ≤ cap) (hm : cap ≤ 9223372036854775807) (hij : i ≤ j) (hj : j ≤ zs.length) :
 Calls Try.prog 76 #[.slice (some ⟨blk, off, none⟩) zs.length cap, .int .i64 i, .int .i64 j] w fun e w' => e = .returned (.slice (some ⟨blk, off, none⟩) (zs.length - (j - i)) cap) ∧ ∃ q, w' = putRow (Value.int .i64) (Sort.ahead w q) blk off (zs.take i ++ zs.drop j ++ List.replicate (j - i) 0).toArray := Any.slices_Delete_int Try.laysNm223 blk off cap i j zs w hH hcap hm hij hj
open Go.RowKit Go.Sort in
/-- .. and plain. (LAID: no walk: one application.) -/
theorem Try.slices_Sort_int_none (p : Option Addr) (cap : Nat) (w : World) :
 Calls Try.prog 71 #[.slice p 0 cap] w fun e w' => e = .returned (.tuple #[]) ∧ w' = w := Any.slices_Sort_int_none Try.lays189 p cap w
end Go.Proofs
/- Plain lists: rising lists, edges, what is reached, an order. No program in sight. -/
namespace Go.Proofs.Ytkkfpmgmicfkfaa.TopoMath
/-! ### Rising lists -/
def Rising (l : List Int) : Prop := l.Pairwise (· < ·)
theorem rising_ext {a b : List Int} (ha : Rising a) (hb : Rising b) (h : ∀ x, x ∈ a ↔ x ∈ b) : a = b := by
 induction a generalizing b with
 | nil =>
  cases b with
  | nil => rfl
  | cons y ys => exact absurd ((h y).2 List.mem_cons_self) (by simp)
 | cons x xs ih =>
  cases b with
  | nil => exact absurd ((h x).1 List.mem_cons_self) (by simp)
  | cons y ys =>
   have hx := List.pairwise_cons.1 ha
   have hy := List.pairwise_cons.1 hb
   have hxy : x = y := by
    rcases List.mem_cons.1 ((h x).1 List.mem_cons_self) with e | e
    · exact e
    · rcases List.mem_cons.1 ((h y).2 List.mem_cons_self) with e' | e'
      · exact e'.symm
      · have h1 := hx.1 y e'
        have h2 := hy.1 x e
        omega
   subst hxy
   congr 1
   refine ih hx.2 hy.2 (fun z => ⟨fun hz => ?_, fun hz => ?_⟩)
   · rcases List.mem_cons.1 ((h z).1 (List.mem_cons_of_mem _ hz)) with e | e
     · have := hx.1 z hz
       omega
     · exact e
   · rcases List.mem_cons.1 ((h z).2 (List.mem_cons_of_mem _ hz)) with e | e
     · have := hy.1 z hz
       omega
     · exact e
/-- A number laid among rising ones. -/
def add : List Int → Int → List Int
 | [], n => [n]
 | x :: xs, n => if n < x then n :: x :: xs else if n = x then x :: xs else x :: add xs n
theorem mem_add {l : List Int} {n x : Int} : x ∈ add l n ↔ x = n ∨ x ∈ l := by
 induction l with
 | nil => simp [add]
 | cons y ys ih =>
  unfold add
  split
  · simp
  · split
    · rename_i _ h
      subst h
      simp
    · simp only [List.mem_cons, ih]
      constructor
      · rintro (h | h | h) <;> simp [h]
      · rintro (h | h | h) <;> simp [h]
theorem rising_add {l : List Int} (h : Rising l) (n : Int) : Rising (add l n) := by
 induction l with
 | nil => simp [add, Rising]
 | cons y ys ih =>
  have hy := List.pairwise_cons.1 h
  unfold add
  split
  · rename_i hlt
    refine List.pairwise_cons.2 ⟨fun z hz => ?_, h⟩
    rcases List.mem_cons.1 hz with e | e
    · omega
    · have := hy.1 z e
      omega
  · split
    · exact h
    · rename_i h1 h2
      refine List.pairwise_cons.2 ⟨fun z hz => ?_, ih hy.2⟩
      rcases mem_add.1 hz with e | e
      · omega
      · exact hy.1 z e
/-- Numbers, rising, each once. -/
def rise (l : List Int) : List Int := l.foldl add []
theorem foldl_add {l acc : List Int} (h : Rising acc) : Rising (l.foldl add acc) ∧ ∀ x, x ∈ l.foldl add acc ↔ x ∈ acc ∨ x ∈ l := by
 induction l generalizing acc with
 | nil => exact ⟨h, by simp⟩
 | cons y ys ih =>
  obtain ⟨h1, h2⟩ := ih (rising_add h y)
  refine ⟨h1, fun x => ?_⟩
  rw [List.foldl_cons, h2, mem_add]
  simp only [List.mem_cons]
  constructor
  · rintro ((h | h) | h) <;> simp [h]
  · rintro (h | h | h) <;> simp [h]
theorem rising_rise (l : List Int) : Rising (rise l) := (foldl_add (acc := []) List.Pairwise.nil).1
theorem mem_rise {l : List Int} {x : Int} : x ∈ rise l ↔ x ∈ l := by
 have := (foldl_add (l := l) (acc := []) List.Pairwise.nil).2 x
 simpa [rise] using this
theorem add_length_le (l : List Int) (n : Int) : (add l n).length ≤ l.length + 1 := by
 induction l with
 | nil => simp [add]
 | cons y ys ih =>
  unfold add
  split
  · simp
  · split
    · simp
    · simp only [List.length_cons]; omega
theorem rise_length_le (l : List Int) : (rise l).length ≤ l.length := by
 have : ∀ (l acc : List Int), (l.foldl add acc).length ≤ acc.length + l.length := by
  intro l
  induction l with
  | nil => simp
  | cons y ys ih =>
   intro acc
   have h1 := ih (add acc y)
   have h2 := add_length_le acc y
   simp only [List.foldl_cons, List.length_cons]
   omega
 have h := this l []
 simpa [rise] using h
theorem rising_nodup {l : List Int} (h : Rising l) : l.Nodup := h.imp (fun hab => by omega)
/-! ### Edges -/
section
variable {E : Type} (fr too : E → Int)
def next (l : List E) (n : Int) : List Int := rise ((l.filter fun e => fr e == n).map too)
theorem rising_next (l : List E) (n : Int) : Rising (next fr too l n) := rising_rise _
theorem mem_next {l : List E} {n x : Int} : x ∈ next fr too l n ↔ ∃ e ∈ l, fr e = n ∧ too e = x := by
 simp only [next, mem_rise, List.mem_map, List.mem_filter, beq_iff_eq]
 constructor
 · rintro ⟨e, ⟨h1, h2⟩, h3⟩
   exact ⟨e, h1, h2, h3⟩
 · rintro ⟨e, h1, h2, h3⟩
   exact ⟨e, ⟨h1, h2⟩, h3⟩
/-- From n one comes to m in one step or more. -/
inductive Path (l : List E) : Int → Int → Prop
 | one {n m : Int} : m ∈ next fr too l n → Path l n m
 | step {n m k : Int} : m ∈ next fr too l n → Path l m k → Path l n k
variable {fr too}
theorem Path.trans {l : List E} {a b c : Int} (h : Path fr too l a b) (h' : Path fr too l b c) : Path fr too l a c := by
 induction h with
 | one h => exact .step h h'
 | step h _ ih => exact .step h (ih h')
theorem Path.last {l : List E} {a c : Int} (h : Path fr too l a c) : ∃ b, c ∈ next fr too l b ∧ (b = a ∨ Path fr too l a b) := by
 induction h with
 | one h => exact ⟨_, h, .inl rfl⟩
 | step h _ ih =>
  obtain ⟨b, hb, h2⟩ := ih
  refine ⟨b, hb, .inr ?_⟩
  rcases h2 with rfl | h2
  · exact .one h
  · exact .step h h2
theorem Path.mem {l : List E} {a c : Int} (h : Path fr too l a c) : c ∈ l.map too := by
 obtain ⟨b, hb, _⟩ := h.last
 obtain ⟨e, he, _, rfl⟩ := (mem_next fr too).1 hb
 exact List.mem_map_of_mem he
theorem Path.head {l : List E} {a c : Int} (h : Path fr too l a c) : a ∈ l.map fr := by
 cases h with
 | one h =>
  obtain ⟨e, he, rfl, _⟩ := (mem_next fr too).1 h
  exact List.mem_map_of_mem he
 | step h _ =>
  obtain ⟨e, he, rfl, _⟩ := (mem_next fr too).1 h
  exact List.mem_map_of_mem he
variable (fr too)
/-- A list that holds what n leads to, nothing that isn't reached, and is closed, holds just what is reached. -/
theorem reach_char {l : List E} {n : Int} {out : List Int} (h1 : ∀ x, x ∈ next fr too l n → x ∈ out) (h2 : ∀ x, x ∈ out → Path fr too l n x)
 (h3 : ∀ x, x ∈ out → ∀ y, y ∈ next fr too l x → y ∈ out) (x : Int) : x ∈ out ↔ Path fr too l n x := by
 refine ⟨h2 x, fun h => ?_⟩
 have key : ∀ {a b : Int}, Path fr too l a b → (a = n ∨ a ∈ out) → b ∈ out := by
  intro a b h
  induction h with
  | one hq =>
   rintro (rfl | ha)
   · exact h1 _ hq
   · exact h3 _ ha _ hq
  | step hq _ ih =>
   rintro (rfl | ha)
   · exact ih (.inr (h1 _ hq))
   · exact ih (.inr (h3 _ ha _ hq))
 exact key h (.inl rfl)
/-- One round: what is there, and what it leads to. -/
def more (l : List E) (out : List Int) : List Int := rise (out ++ out.flatMap (next fr too l))
theorem mem_more {l : List E} {out : List Int} {x : Int} : x ∈ more fr too l out ↔ x ∈ out ∨ ∃ y ∈ out, x ∈ next fr too l y := by
 simp [more, mem_rise, List.mem_flatMap]
def rounds (l : List E) : Nat → List Int → List Int
 | 0, out => out
 | k + 1, out => rounds l k (more fr too l out)
/-- What is reached from n. -/
def reach (l : List E) (n : Int) : List Int := rounds fr too l l.length (next fr too l n)
theorem rising_rounds (l : List E) (k : Nat) {out : List Int} (h : Rising out) : Rising (rounds fr too l k out) := by
 induction k generalizing out with
 | zero => exact h
 | succ k ih => exact ih (rising_rise _)
theorem rising_reach (l : List E) (n : Int) : Rising (reach fr too l n) := rising_rounds fr too l _ (rising_next fr too l n)
theorem rounds_sub (l : List E) (k : Nat) {out : List Int} {x : Int} (h : x ∈ out) : x ∈ rounds fr too l k out := by
 induction k generalizing out with
 | zero => exact h
 | succ k ih => exact ih ((mem_more fr too).2 (.inl h))
theorem rounds_path (l : List E) (n : Int) (k : Nat) {out : List Int} (h : ∀ x ∈ out, Path fr too l n x) : ∀ x ∈ rounds fr too l k out, Path fr too l n x := by
 induction k generalizing out with
 | zero => exact h
 | succ k ih =>
  refine ih (fun x hx => ?_)
  rcases (mem_more fr too).1 hx with h' | ⟨y, hy, hxy⟩
  · exact h x h'
  · exact (h y hy).trans (.one hxy)
/-- A nodup list inside another is no longer than it. -/
theorem length_le_of_sub {a b : List Int} (ha : a.Nodup) (h : ∀ x ∈ a, x ∈ b) : a.length ≤ b.length := by
 induction a generalizing b with
 | nil => simp
 | cons x xs ih =>
  have hx := List.nodup_cons.1 ha
  have hb : x ∈ b := h x List.mem_cons_self
  have := ih (b := b.erase x) hx.2 (fun y hy => by
   have hne : y ≠ x := fun e => hx.1 (e ▸ hy)
   exact (List.mem_erase_of_ne hne).2 (h y (List.mem_cons_of_mem _ hy)))
  rw [List.length_erase_of_mem hb] at this
  have : 0 < b.length := List.length_pos_of_mem hb
  simp only [List.length_cons]
  omega
/-- A rising list inside a rising one of the same length is it. -/
theorem rising_eq_of_sub {a b : List Int} (ha : Rising a) (hb : Rising b) (h : ∀ x ∈ a, x ∈ b) (hl : b.length ≤ a.length) : a = b := by
 refine rising_ext ha hb (fun x => ⟨h x, fun hx => ?_⟩)
 refine Classical.byContradiction fun hn => ?_
 have : (x :: a).length ≤ b.length := length_le_of_sub (List.nodup_cons.2 ⟨hn, rising_nodup ha⟩) (fun y hy => by
  rcases List.mem_cons.1 hy with rfl | e
  · exact hx
  · exact h y e)
 simp only [List.length_cons] at this
 omega
/-- After enough rounds nothing is new. -/
theorem rounds_closed (l : List E) (k : Nat) {out : List Int} (hr : Rising out) (hs : ∀ x ∈ out, x ∈ l.map too) (hk : l.length < out.length + k ∨ more fr too l out = out) :
 more fr too l (rounds fr too l k out) = rounds fr too l k out := by
 induction k generalizing out with
 | zero =>
  rcases hk with hk | hk
  · have := length_le_of_sub (rising_nodup hr) hs
    simp only [List.length_map] at this
    omega
  · exact hk
 | succ k ih =>
  have hsub : ∀ x ∈ out, x ∈ more fr too l out := fun x hx => (mem_more fr too).2 (.inl hx)
  refine ih (rising_rise _) (fun x hx => ?_) ?_
  · rcases (mem_more fr too).1 hx with h | ⟨y, _, h⟩
    · exact hs x h
    · obtain ⟨e, he, _, rfl⟩ := (mem_next fr too).1 h
      exact List.mem_map_of_mem he
  · by_cases he : more fr too l out = out
    · right
      rw [he, he]
    · left
      have hlt : out.length < (more fr too l out).length := by
       refine Nat.lt_of_not_le fun hle => he (rising_eq_of_sub hr (rising_rise _) hsub hle).symm
      rcases hk with hk | hk
      · omega
      · exact absurd hk he
theorem mem_reach {l : List E} {n x : Int} : x ∈ reach fr too l n ↔ Path fr too l n x := by
 by_cases hn : next fr too l n = []
 · have h0 : ∀ k, rounds fr too l k [] = [] := by
    intro k
    induction k with
    | zero => rfl
    | succ k ih => exact ih
   unfold reach
   rw [hn, h0]
   refine ⟨fun h => by simp at h, fun h => ?_⟩
   cases h with
   | one h => rw [hn] at h; simp at h
   | step h _ => rw [hn] at h; simp at h
 · have hc : more fr too l (reach fr too l n) = reach fr too l n := by
    refine rounds_closed fr too l l.length (rising_next fr too l n) (fun x hx => ?_) (.inl ?_)
    · obtain ⟨e, he, _, rfl⟩ := (mem_next fr too).1 hx
      exact List.mem_map_of_mem he
    · have := List.length_pos_iff.2 hn
      omega
   refine reach_char fr too (fun x hx => rounds_sub fr too l _ hx) (rounds_path fr too l n _ (fun x hx => .one hx)) (fun x hx y hy => ?_) x
   show y ∈ reach fr too l n
   rw [← hc]
   exact (mem_more fr too).2 (.inr ⟨x, hx, hy⟩)
/-- Whatever rising list holds just what is reached is 'reach'. -/
theorem eq_reach {l : List E} {n : Int} {out : List Int} (hr : Rising out) (h : ∀ x, x ∈ out ↔ Path fr too l n x) : out = reach fr too l n :=
 rising_ext hr (rising_reach fr too l n) (fun x => (h x).trans (mem_reach fr too).symm)
/-! ### An order -/
def nodes (l : List E) : List Int := rise (l.map fr ++ l.map too)
theorem rising_nodes (l : List E) : Rising (nodes fr too l) := rising_rise _
theorem mem_nodes {l : List E} {x : Int} : x ∈ nodes fr too l ↔ (∃ e ∈ l, fr e = x) ∨ ∃ e ∈ l, too e = x := by
 simp [nodes, mem_rise]
theorem nodes_alt (l : List E) : rise [rise (l.map fr), rise (l.map too)].flatten = nodes fr too l :=
 rising_ext (rising_rise _) (rising_nodes fr too l) (fun x => by simp [mem_rise, nodes])
theorem nodes_length_le (l : List E) : (nodes fr too l).length ≤ 2 * l.length := by
 have := rise_length_le (l.map fr ++ l.map too)
 simp only [nodes, List.length_append, List.length_map] at *
 omega
/-- No edge leads to n from what is left. -/
def ready (l : List E) (left : List Int) (n : Int) : Bool := !(l.any fun e => too e == n && left.contains (fr e))
theorem ready_iff {l : List E} {left : List Int} {n : Int} : ready fr too l left n = true ↔ ∀ p, n ∈ next fr too l p → p ∉ left := by
 simp only [ready, Bool.not_eq_true', List.any_eq_false, Bool.and_eq_true, beq_iff_eq, List.contains_iff_mem, mem_next]
 constructor
 · rintro h p ⟨e, he, rfl, rfl⟩ hp
   exact h e he ⟨rfl, hp⟩
 · rintro h e he ⟨rfl, hp⟩
   exact h (fr e) ⟨e, he, rfl, rfl⟩ hp
def kahn (l : List E) : Nat → List Int → List Int → Option (List Int)
 | 0, left, out => if left = [] then some out else none
 | k + 1, left, out => if left = [] then some out else
  match left.find? (ready fr too l left) with
  | none => none
  | some n => kahn l k (left.erase n) (out ++ [n])
def order (l : List E) : Option (List Int) := kahn fr too l (nodes fr too l).length (nodes fr too l) []
/-- Where all that is left has a node ahead of it that is left, something reaches itself. -/
theorem cycle_of_stuck {l : List E} {left : List Int} (hne : left ≠ []) (h : ∀ n ∈ left, ∃ p ∈ left, n ∈ next fr too l p) : ∃ n ∈ left, Path fr too l n n := by
 -- walk back: chains of any length; by the pigeonhole one node is met twice
 have chain : ∀ k : Nat, ∃ c : List Int, c.length = k + 1 ∧ (∀ x ∈ c, x ∈ left) ∧ c.Pairwise (fun a b => Path fr too l a b) := by
  intro k
  induction k with
  | zero =>
   obtain ⟨x, hx⟩ := List.exists_mem_of_ne_nil left hne
   exact ⟨[x], rfl, by simpa using hx, List.pairwise_singleton _ _⟩
  | succ k ih =>
   obtain ⟨c, hc, hm, hp⟩ := ih
   cases c with
   | nil => simp at hc
   | cons x xs =>
    obtain ⟨p, hpl, hxp⟩ := h x (hm x List.mem_cons_self)
    refine ⟨p :: x :: xs, by simpa using hc, ?_, List.pairwise_cons.2 ⟨fun y hy => ?_, hp⟩⟩
    · intro y hy
      rcases List.mem_cons.1 hy with rfl | e
      · exact hpl
      · exact hm y e
    · rcases List.mem_cons.1 hy with rfl | e
      · exact .one hxp
      · exact (Path.one hxp).trans ((List.pairwise_cons.1 hp).1 y e)
 obtain ⟨c, hc, hm, hp⟩ := chain left.length
 by_cases hn : c.Nodup
 · have := length_le_of_sub hn hm
   omega
 · -- two equal members
   have : ∃ x ∈ c, Path fr too l x x := by
    clear hc hm chain h hne
    induction c with
    | nil => exact absurd List.nodup_nil hn
    | cons x xs ih =>
     have hx := List.pairwise_cons.1 hp
     by_cases hmem : x ∈ xs
     · exact ⟨x, List.mem_cons_self, hx.1 x hmem⟩
     · obtain ⟨y, hy, hyy⟩ := ih hx.2 (fun hnd => hn (List.nodup_cons.2 ⟨hmem, hnd⟩))
       exact ⟨y, List.mem_cons_of_mem _ hy, hyy⟩
   obtain ⟨x, hx, hxx⟩ := this
   exact ⟨x, hm x hx, hxx⟩
theorem find_none {l : List E} {left : List Int} (hne : left ≠ []) (h : left.find? (ready fr too l left) = none) : ∃ n ∈ left, Path fr too l n n := by
 refine cycle_of_stuck fr too hne (fun n hn => ?_)
 have h1 := List.find?_eq_none.1 h n hn
 refine Classical.byContradiction fun hno => h1 ((ready_iff fr too).2 (fun p hp hpl => hno ⟨p, hpl, hp⟩))
/-- No node that is out reaches itself. -/
def Fine (l : List E) (left : List Int) : Prop := ∀ x, x ∉ left → ¬ Path fr too l x x
theorem fine_erase {l : List E} {left : List Int} {n : Int} (hf : Fine fr too l left) (hn : n ∈ left) (hr : ready fr too l left n = true) : Fine fr too l (left.erase n) := by
 intro x hx hxx
 by_cases e : x = n
 · subst e
   obtain ⟨b, hb, h2⟩ := hxx.last
   have hbl := (ready_iff fr too).1 hr b hb
   rcases h2 with rfl | h2
   · exact hbl hn
   · exact hf b hbl ((Path.one hb).trans h2)
 · exact hf x (fun h => hx ((List.mem_erase_of_ne e).2 h)) hxx
theorem kahn_none {l : List E} (k : Nat) {left out : List Int} (hk : left.length ≤ k) (h : kahn fr too l k left out = none) : ∃ n ∈ left, Path fr too l n n := by
 induction k generalizing left out with
 | zero =>
  have : left = [] := List.length_eq_zero_iff.1 (by omega)
  simp [kahn, this] at h
 | succ k ih =>
  unfold kahn at h
  split at h
  · simp at h
  · rename_i hne
    split at h
    · rename_i hf
      exact find_none fr too hne hf
    · rename_i n hf
      have hn := List.mem_of_find?_eq_some hf
      have hp : 0 < left.length := List.length_pos_of_mem hn
      obtain ⟨m, hm, hmm⟩ := ih (by rw [List.length_erase_of_mem hn]; omega) h
      exact ⟨m, List.mem_of_mem_erase hm, hmm⟩
theorem kahn_some {l : List E} (k : Nat) {left out r : List Int} (hnd : left.Nodup) (hf : Fine fr too l left) (h : kahn fr too l k left out = some r) : ∀ x, ¬ Path fr too l x x := by
 induction k generalizing left out with
 | zero =>
  unfold kahn at h
  split at h
  · rename_i e
    subst e
    exact fun x => hf x (by simp)
  · simp at h
 | succ k ih =>
  unfold kahn at h
  split at h
  · rename_i e
    subst e
    exact fun x => hf x (by simp)
  · split at h
    · simp at h
    · rename_i n hn
      exact ih (hnd.erase n) (fine_erase fr too hf (List.mem_of_find?_eq_some hn) (List.find?_some hn)) h
theorem fine_nodes (l : List E) : Fine fr too l (nodes fr too l) := by
 intro x hx hxx
 obtain ⟨e, he, h⟩ := List.mem_map.1 hxx.mem
 exact hx ((mem_nodes fr too).2 (.inr ⟨e, he, h⟩))
theorem order_none {l : List E} : order fr too l = none ↔ ∃ n ∈ nodes fr too l, n ∈ reach fr too l n := by
 constructor
 · intro h
   obtain ⟨n, hn, hnn⟩ := kahn_none fr too _ (Nat.le_refl _) h
   exact ⟨n, hn, (mem_reach fr too).2 hnn⟩
 · rintro ⟨n, hn, hnn⟩
   cases h : order fr too l with
   | none => rfl
   | some r => exact absurd ((mem_reach fr too).1 hnn) (kahn_some fr too _ (rising_nodup (rising_nodes fr too l)) (fine_nodes fr too l) h n)
end
end Go.Proofs.Ytkkfpmgmicfkfaa.TopoMath
/- slices.Sort, slices.Compact, slices.Delete of whole numbers, told of the call's own rows. -/
namespace Go.Proofs.Ytkkfpmgmicfkfaa.X
open Go.RowKit Go.Proofs.YtkkfpmgmicfkfaaW.PrintWords Go.Proofs.YtkkfpmgmicfkfaaW.PrintLast Go.Proofs.YtkkfpmgmicfkfaaW.PrintMore Go.Proofs.Ytkkfpmgmicfkfaa Go.Sort
theorem sort_int (v : Value) (l : List Int) (base : Nat) (ok : Nat → Prop) (w : World) (h : Kd.R (Kd.int .i64) 3 w base ok v l) (hl : l.length < 4611686018427387904) :
 Calls Try.prog 71 #[v] w fun e w' => e = .returned (.tuple #[]) ∧ Kd.R (Kd.int .i64) 3 w' base ok v (l.mergeSort fun x y => decide (x ≤ y)) ∧ w.grownBy w' v.ownBlock := by
 rcases Rows1.R_cases h with ⟨rfl, rfl⟩ | ⟨g, cap, rfl⟩
 · refine (Try.slices_Sort_int_none _ _ w).mono ?_
   rintro e w' ⟨rfl, rfl⟩
   exact ⟨rfl, by simpa using Kd.R_nil (Kd.int .i64) 3 w' base ok, grown_of_below (Below.refl _ _) _⟩
 · obtain ⟨_, hlt, _, _, _, hH⟩ := Rows1.R_holds h
   refine (Try.slices_Sort_int g 0 cap l w hH hlt hl).mono ?_
   rintro e w' ⟨rfl, n, os, rfl⟩
   have hm : (l.mergeSort fun x y => decide (x ≤ y)).length = l.length := List.length_mergeSort _
   obtain ⟨h1, h2⟩ := Rows1.R_put (q := n) (os := os) (k := l.length) h hm (Nat.le_refl _)
   rw [List.take_of_length_le (by omega)] at h1
   exact ⟨rfl, hm ▸ h1, h2⟩
theorem compact_length_le (l : List Int) : (Lib.compact l).length ≤ l.length := by
 unfold Lib.compact Lib.compactUpTo
 rw [List.length_map]
 exact Nat.le_trans (List.length_filter_le _ _) (by simp)
theorem compact_int (v : Value) (l : List Int) (base : Nat) (ok : Nat → Prop) (w : World) (h : Kd.R (Kd.int .i64) 3 w base ok v l) (hl : l.length ≤ 9223372036854775807) :
 Calls Try.prog 72 #[v] w fun e w' => ∃ v', e = .returned v' ∧ v'.ownBlock = v.ownBlock ∧ Kd.R (Kd.int .i64) 3 w' base ok v' (Lib.compact l) ∧ w.grownBy w' v.ownBlock := by
 rcases Rows1.R_cases h with ⟨rfl, rfl⟩ | ⟨g, cap, rfl⟩
 · refine (Try.slices_Compact_int_empty _ _ w).mono ?_
   rintro e w' ⟨rfl, rfl⟩
   exact ⟨_, rfl, rfl, by simpa [Lib.compact, Lib.compactUpTo] using Kd.R_nil (Kd.int .i64) 3 w' base ok, grown_of_below (Below.refl _ _) _⟩
 · obtain ⟨_, hlt, hcap, _, _, hH⟩ := Rows1.R_holds h
   refine (Try.slices_Compact_int g 0 cap l w hH hl hcap).mono ?_
   rintro e w' ⟨rfl, n, rfl⟩
   have hle := compact_length_le l
   obtain ⟨h1, h2⟩ := Rows1.R_put (q := n) (os := #[]) (k := (Lib.compact l).length) (ys := Lib.compact l ++ List.replicate (l.length - (Lib.compact l).length) 0) h (by simp; omega) hle
   rw [List.take_left, grow_empty] at h1
   rw [grow_empty] at h2
   exact ⟨_, rfl, rfl, h1, h2⟩
theorem delete_int (v : Value) (l : List Int) (i : Int) (base : Nat) (ok : Nat → Prop) (w : World) (h : Kd.R (Kd.int .i64) 3 w base ok v l) (h0 : 0 ≤ i) (hi : i < l.length) :
 Calls Try.prog 76 #[v, .int .i64 i, .int .i64 (i + 1)] w fun e w' => ∃ v', e = .returned v' ∧ v'.ownBlock = v.ownBlock ∧ Kd.R (Kd.int .i64) 3 w' base ok v' (l.eraseIdx i.toNat) ∧ w.grownBy w' v.ownBlock := by
 obtain ⟨j, rfl⟩ := Int.eq_ofNat_of_zero_le h0
 rcases Rows1.R_cases h with ⟨rfl, rfl⟩ | ⟨g, cap, rfl⟩
 · simp at hi; omega
 · obtain ⟨_, hlt, hcap, hm, _, hH⟩ := Rows1.R_holds h
   unfold maxLen at hm
   have hj : j < l.length := by omega
   refine (Try.slices_Delete_int g 0 cap j (j + 1) l w hH hcap (by omega) (by omega) (by omega)).mono ?_
   rintro e w' ⟨rfl, n, rfl⟩
   have he : l.take j ++ l.drop (j + 1) = l.eraseIdx j := (List.eraseIdx_eq_take_drop_succ l j).symm
   have hel : (l.eraseIdx j).length = l.length - 1 := by rw [List.length_eraseIdx]; simp [hj]
   obtain ⟨h1, h2⟩ := Rows1.R_put (q := n) (os := #[]) (k := (l.eraseIdx j).length) (ys := l.take j ++ l.drop (j + 1) ++ List.replicate (j + 1 - j) 0) h (by rw [he, List.length_append, hel, List.length_replicate]; omega) (by omega)
   rw [he, List.take_left, grow_empty, hel] at h1
   rw [grow_empty] at h2
   rw [he] at h2
   refine ⟨_, rfl, rfl, ?_, ?_⟩
   · rw [he, show l.length - (j + 1 - j) = l.length - 1 by omega, Int.toNat_natCast]
     exact h1
   · rw [he]
     exact h2
theorem compact_rising {l : List Int} (h : l.Pairwise (· ≤ ·)) : TopoMath.Rising (Lib.compact l) ∧ ∀ x, x ∈ Lib.compact l ↔ x ∈ l := by
 have hget : ∀ j, j < l.length → l.toArray[j]! = l.getD j 0 := fun j hj => by simp [getElem!_pos, hj, List.getD_eq_getElem?_getD]
 have hle : ∀ i j, i ≤ j → j < l.length → l.getD i 0 ≤ l.getD j 0 := by
  intro i j hij hj
  rcases Nat.lt_or_ge i j with hlt | hge
  · have := List.pairwise_iff_getElem.1 h i j (by omega) hj hlt
    simpa [List.getD_eq_getElem?_getD, hj, show i < l.length by omega] using this
  · have : i = j := by omega
    subst this
    exact Int.le_refl _
 refine ⟨?_, fun x => ⟨fun hx => ?_, fun hx => ?_⟩⟩
 · unfold TopoMath.Rising Lib.compact Lib.compactUpTo
   rw [List.pairwise_map]
   refine List.Pairwise.imp_of_mem ?_ (List.Pairwise.filter _ List.pairwise_lt_range)
   intro i j hi hj hij
   have hjm := List.mem_filter.1 hj
   have hjl : j < l.length := by simpa using hjm.1
   have hk := hjm.2
   simp only [Lib.keeps, decide_eq_true_eq] at hk
   rw [hget j hjl, hget (j - 1) (by omega)] at hk
   rw [hget i (by omega), hget j hjl]
   have h1 := hle i (j - 1) (by omega) (by omega)
   have h2 := hle (j - 1) j (by omega) hjl
   omega
 · unfold Lib.compact Lib.compactUpTo at hx
   obtain ⟨j, hj, rfl⟩ := List.mem_map.1 hx
   have hjl : j < l.length := by simpa using (List.mem_filter.1 hj).1
   rw [hget j hjl]
   simp [List.getD_eq_getElem?_getD, hjl]
 · obtain ⟨j, hj, rfl⟩ := List.getElem_of_mem hx
   have key : ∀ m, ∀ j (hj : j < l.length), j = m → l[j] ∈ Lib.compact l := by
    intro m
    induction m with
    | zero =>
     intro j hj e
     subst e
     refine List.mem_map.2 ⟨0, List.mem_filter.2 ⟨by simpa using hj, by simp [Lib.keeps]⟩, ?_⟩
     rw [hget 0 hj]
     simp [List.getD_eq_getElem?_getD, hj]
    | succ m ih =>
     intro j hj e
     subst e
     by_cases he : l[m + 1] = l[m]
     · rw [he]
       exact ih m (by omega) rfl
     · refine List.mem_map.2 ⟨m + 1, List.mem_filter.2 ⟨by simpa using hj, ?_⟩, ?_⟩
       · simp only [Lib.keeps, decide_eq_true_eq]
         right
         rw [hget _ hj, hget _ (by omega)]
         simpa [List.getD_eq_getElem?_getD, hj, show m < l.length by omega] using he
       · rw [hget _ hj]
         simp [List.getD_eq_getElem?_getD, hj]
   exact key j j hj rfl
theorem compact_sorted (l : List Int) : Lib.compact (l.mergeSort fun x y => decide (x ≤ y)) = TopoMath.rise l := by
 have hs : (l.mergeSort fun x y => decide (x ≤ y)).Pairwise (· ≤ ·) := by
  have := List.pairwise_mergeSort (le := fun (x y : Int) => decide (x ≤ y)) (fun a b c hab hbc => by simp at *; omega) (fun a b => by simp; omega) l
  exact this.imp (fun hab => by simpa using hab)
 obtain ⟨h1, h2⟩ := compact_rising hs
 exact TopoMath.rising_ext h1 (TopoMath.rising_rise l) (fun x => by rw [h2, List.mem_mergeSort, TopoMath.mem_rise])
/-- A number laid among rising ones, behind its equals. -/
def insertLe (x : Int) : List Int → List Int
 | [] => [x]
 | y :: ys => if x ≤ y then x :: y :: ys else y :: insertLe x ys
/-- The numbers, rising. -/
def sortL (l : List Int) : List Int := l.foldr insertLe []
theorem insertLe_perm (x : Int) (l : List Int) : (insertLe x l).Perm (x :: l) := by
 induction l with
 | nil => exact List.Perm.refl _
 | cons y ys ih =>
  unfold insertLe
  split
  · exact List.Perm.refl _
  · exact (List.Perm.cons y ih).trans (List.Perm.swap x y ys)
theorem sortL_perm (l : List Int) : (sortL l).Perm l := by
 induction l with
 | nil => exact List.Perm.refl _
 | cons x xs ih => exact (insertLe_perm x _).trans (List.Perm.cons x ih)
theorem insertLe_sorted {x : Int} {l : List Int} (h : l.Pairwise (· ≤ ·)) : (insertLe x l).Pairwise (· ≤ ·) := by
 induction l with
 | nil => simp [insertLe]
 | cons y ys ih =>
  have hy := List.pairwise_cons.1 h
  unfold insertLe
  split
  · rename_i hle
    refine List.pairwise_cons.2 ⟨fun z hz => ?_, h⟩
    rcases List.mem_cons.1 hz with e | e
    · omega
    · have := hy.1 z e
      omega
  · rename_i hle
    refine List.pairwise_cons.2 ⟨fun z hz => ?_, ih hy.2⟩
    rcases List.mem_cons.1 ((insertLe_perm x ys).mem_iff.1 hz) with e | e
    · omega
    · exact hy.1 z e
theorem sortL_sorted (l : List Int) : (sortL l).Pairwise (· ≤ ·) := by
 induction l with
 | nil => exact List.Pairwise.nil
 | cons x xs ih => exact insertLe_sorted ih
theorem mergeSort_eq (l : List Int) : (l.mergeSort fun x y => decide (x ≤ y)) = sortL l := by
 have hs : (l.mergeSort fun x y => decide (x ≤ y)).Pairwise (· ≤ ·) := by
  have := List.pairwise_mergeSort (le := fun (x y : Int) => decide (x ≤ y)) (fun a b c hab hbc => by simp at *; omega) (fun a b => by simp; omega) l
  exact this.imp (fun hab => by simpa using hab)
 exact List.Perm.eq_of_pairwise (fun a b _ _ h1 h2 => by omega) hs (sortL_sorted l) ((List.mergeSort_perm l _).trans (sortL_perm l).symm)
/-! ### In the print's form -/
def slices_Sort_int_int.f (l0 : List Int) : Option (List Int) := if l0.length < 4611686018427387904 then some (sortL l0) else none
theorem slices_Sort_int_int.calls (P0_ : Nat → Prop) (u9000_ : Value) (l0 : List Int) (r : List Int) (w0 w : World) (hB : Below w0.heap.size w0 w) (ho0 : Kd.R (Kd.int .i64) 3 w w0.heap.size P0_ u9000_ l0) (h : slices_Sort_int_int.f l0 = some r) :
 Calls Try.prog 71 #[u9000_] w fun e w' => e = .returned (.tuple #[]) ∧ Kd.R (Kd.int .i64) 3 w' w0.heap.size (fun k_ => (P0_ k_ ∨ w.heap.size ≤ k_)) u9000_ r ∧ Below w0.heap.size w0 w' ∧ Kept w w' (fun k_ => P0_ k_) := by
 unfold slices_Sort_int_int.f at h
 split at h
 · rename_i hl
   injection h with h
   subst h
   refine (sort_int u9000_ l0 w0.heap.size P0_ w ho0 hl).mono ?_
   rintro e w' ⟨rfl, hR, hg⟩
   rw [mergeSort_eq] at hR
   exact ⟨rfl, Kd.R_mono hR (fun _ hk => .inl hk), pw_below_grown hB _ hB.size hg (own_base (Kd.own_of_R ho0)), hg.size, fun i hi hn => hg.block i hi (fun hk => hn (ho0.1 i hk.symm))⟩
 · cases h
end Go.Proofs.Ytkkfpmgmicfkfaa.X
set_option linter.unusedVariables false
/- slices.Clone at its instances. Written by wip/tools/gen_clones.py. -/
namespace Go.Proofs.Ytkkfpmgmicfkfaa.X
open Go.RowKit Go.Proofs.YtkkfpmgmicfkfaaW.PrintWords Go.Proofs.YtkkfpmgmicfkfaaW.PrintLast Go.Proofs.YtkkfpmgmicfkfaaW.PrintMore Go.Proofs.Ytkkfpmgmicfkfaa
/-- A row of no elements in a block of its own. -/
theorem R_empty {α : Type} {d : Kd α} {e base : Nat} {w : World} (ok : Nat → Prop) (hb : base ≤ w.heap.size) (hk : ok w.heap.size) : d.R e (w.alloc (.cells #[] e)) base ok (.slice (some ⟨w.heap.size, 0, none⟩) 0 0) [] :=
 ⟨fun k h => by simp [Value.ownBlock] at h; subst h; exact hk, [], ⟨by simp, .inr ⟨w.heap.size, 0, #[], rfl, hb, blk_new _ _, Nat.le_refl _, by simp [maxLen], by simp, by simp⟩⟩, Reps.none _ _⟩
set_option maxRecDepth 100000 in
theorem clone_bool (A0 : Option Addr) (c0 : Nat) (l : List Bool) (w : World) (hr : Kd.C Kd.bool w A0 l.length l) (hl : l.length < 140737488355328) :
 Calls Try.prog 80 #[.slice A0 l.length c0] w fun e w' => ∃ v, e = .returned v ∧ Kd.R Kd.bool 4 w' w.heap.size (fun _ => True) v l ∧ Below w.heap.size w w' := by
 have HR := Aside0.mk hr
 cases A0 with
 | none =>
  have h0 : l = [] := by
   rcases Nat.eq_zero_or_pos l.length with h | h
   · exact List.length_eq_zero_iff.1 h
   · obtain ⟨ad, e, _⟩ := hr.2.2 h
     cases e
  subst h0
  clear hr
  have e1 := fun (w : World) => Lib.run_eql_slice_nil (P := Try.prog) w 26 4 none 0 c0 0 0 Try.underlying26
  go_enter Try.func80, Try.ntmps80
  go_wp2
  go_ret
  exact ⟨_, rfl, Kd.R_nil _ _ _ _ _, Below.refl _ _⟩
 | some ad =>
  clear hr
  have e1 := fun (w : World) => Lib.run_eql_slice_nil (P := Try.prog) w 26 4 (some ad) l.length c0 0 0 Try.underlying26
  go_enter Try.func80, Try.ntmps80
  go_wp2_with (at_builtin; go_loud (refine Kd.R_append_rows Kd.bool (w0 := w) w.heap.size rfl (.tmp 5) (.tmp 6) 26 4 (.bool false) 1 rfl Try.underlying26 info4 rfl (by decide) (by omega) (.slice (some ⟨w.heap.size, 0, none⟩) 0 0) [] l (some ad) l.length c0 (fun _ => True) (fun _ => False) rfl rfl ?aO ?aR (fun _ _ h => h) (fun _ h => h.elim) ?aF ?aB ?aS ?aL ?_); (case aR => exact Kd.C_below HR.out (below_alloc (Below.refl _ _) _)); (case aB => exact below_alloc (Below.refl _ _) _); (case aF => exact fun _ _ => trivial); (case aO => exact R_empty _ (Nat.le_refl _) trivial); (case aS => simp); (case aL => simp; omega); intro v2 w2 ho hb hg hat; have HO := Aside0.mk ho; have HB := Aside0.mk hb; clear ho hb hg hat)
  go_ret
  exact ⟨_, rfl, by simpa using HO.out, HB.out⟩
set_option maxRecDepth 100000 in
theorem clone_edge (A0 : Option Addr) (c0 : Nat) (l : List S40) (w : World) (hr : Kd.C k40 w A0 l.length l) (hl : l.length < 8796093022208) :
 Calls Try.prog 82 #[.slice A0 l.length c0] w fun e w' => ∃ v, e = .returned v ∧ Kd.R k40 40 w' w.heap.size (fun _ => True) v l ∧ Below w.heap.size w w' := by
 have HR := Aside0.mk hr
 cases A0 with
 | none =>
  have h0 : l = [] := by
   rcases Nat.eq_zero_or_pos l.length with h | h
   · exact List.length_eq_zero_iff.1 h
   · obtain ⟨ad, e, _⟩ := hr.2.2 h
     cases e
  subst h0
  clear hr
  have e1 := fun (w : World) => Lib.run_eql_slice_nil (P := Try.prog) w 38 40 none 0 c0 0 0 Try.underlying38
  go_enter Try.func82, Try.ntmps82
  go_wp2
  go_ret
  exact ⟨_, rfl, Kd.R_nil _ _ _ _ _, Below.refl _ _⟩
 | some ad =>
  clear hr
  have e1 := fun (w : World) => Lib.run_eql_slice_nil (P := Try.prog) w 38 40 (some ad) l.length c0 0 0 Try.underlying38
  go_enter Try.func82, Try.ntmps82
  go_wp2_with (at_builtin; go_loud (refine Kd.R_append_rows k40 (w0 := w) w.heap.size rfl (.tmp 5) (.tmp 6) 38 40 (.agg #[(.int .i64 0), (.int .i64 0)]) 16 rfl Try.underlying38 info40 rfl (by decide) (by omega) (.slice (some ⟨w.heap.size, 0, none⟩) 0 0) [] l (some ad) l.length c0 (fun _ => True) (fun _ => False) rfl rfl ?aO ?aR (fun _ _ h => h) (fun _ h => h.elim) ?aF ?aB ?aS ?aL ?_); (case aR => exact Kd.C_below HR.out (below_alloc (Below.refl _ _) _)); (case aB => exact below_alloc (Below.refl _ _) _); (case aF => exact fun _ _ => trivial); (case aO => exact R_empty _ (Nat.le_refl _) trivial); (case aS => simp); (case aL => simp; omega); intro v2 w2 ho hb hg hat; have HO := Aside0.mk ho; have HB := Aside0.mk hb; clear ho hb hg hat)
  go_ret
  exact ⟨_, rfl, by simpa using HO.out, HB.out⟩
set_option maxRecDepth 100000 in
theorem clone_edges (A0 : Option Addr) (c0 : Nat) (l : List Rows1.Hd) (w : World) (hr : Kd.C Rows1.hdr w A0 l.length l) (hl : l.length < 5864062014805) :
 Calls Try.prog 81 #[.slice A0 l.length c0] w fun e w' => ∃ v, e = .returned v ∧ Kd.R Rows1.hdr 38 w' w.heap.size (fun _ => True) v l ∧ Below w.heap.size w w' := by
 have HR := Aside0.mk hr
 cases A0 with
 | none =>
  have h0 : l = [] := by
   rcases Nat.eq_zero_or_pos l.length with h | h
   · exact List.length_eq_zero_iff.1 h
   · obtain ⟨ad, e, _⟩ := hr.2.2 h
     cases e
  subst h0
  clear hr
  have e1 := fun (w : World) => Lib.run_eql_slice_nil (P := Try.prog) w 27 38 none 0 c0 0 0 Try.underlying27
  go_enter Try.func81, Try.ntmps81
  go_wp2
  go_ret
  exact ⟨_, rfl, Kd.R_nil _ _ _ _ _, Below.refl _ _⟩
 | some ad =>
  clear hr
  have e1 := fun (w : World) => Lib.run_eql_slice_nil (P := Try.prog) w 27 38 (some ad) l.length c0 0 0 Try.underlying27
  go_enter Try.func81, Try.ntmps81
  go_wp2_with (at_builtin; go_loud (refine Kd.R_append_rows Rows1.hdr (w0 := w) w.heap.size rfl (.tmp 5) (.tmp 6) 27 38 (.slice none 0 0) 24 rfl Try.underlying27 info38 rfl (by decide) (by omega) (.slice (some ⟨w.heap.size, 0, none⟩) 0 0) [] l (some ad) l.length c0 (fun _ => True) (fun _ => False) rfl rfl ?aO ?aR (fun _ _ h => h) (fun _ h => h.elim) ?aF ?aB ?aS ?aL ?_); (case aR => exact Kd.C_below HR.out (below_alloc (Below.refl _ _) _)); (case aB => exact below_alloc (Below.refl _ _) _); (case aF => exact fun _ _ => trivial); (case aO => exact R_empty _ (Nat.le_refl _) trivial); (case aS => simp); (case aL => simp; omega); intro v2 w2 ho hb hg hat; have HO := Aside0.mk ho; have HB := Aside0.mk hb; clear ho hb hg hat)
  go_ret
  exact ⟨_, rfl, by simpa using HO.out, HB.out⟩
end Go.Proofs.Ytkkfpmgmicfkfaa.X
namespace Go.Proofs.Ytkkfpmgmicfkfaa.X
open Go.RowKit Go.Proofs.YtkkfpmgmicfkfaaW.PrintWords Go.Proofs.YtkkfpmgmicfkfaaW.PrintLast Go.Proofs.YtkkfpmgmicfkfaaW.PrintMore Go.Proofs.Ytkkfpmgmicfkfaa
theorem topo_next1 (node : Int) (B : Nat) (x : S40) (w : World) (hc : w.cell? ⟨B, 0, none⟩ = some (.int .i64 node)) (hB : B < w.heap.size) :
 Calls Try.prog 95 #[.agg #[.int .i64 x.f0, .int .i64 x.f1], .pointer (some ⟨B, 0, none⟩)] w fun e w' => e = .returned (.tuple #[.int .i64 x.f1, .bool (x.f0 == node)]) ∧ Below w.heap.size w w' := by
 have hne : B ≠ w.heap.size := by omega
 go_enter Try.func95, Try.ntmps95
 go_wp2
 go_quiet (fail)
 go_wp2
 go_ret2
 exact ⟨rfl, pw_below_drewN (below_alloc (Below.refl _ _) _) _⟩
/-- What is asked of a function value that tells a number and a yes of an edge. -/
def FnEdge (g : Nat) (lb : Array Value) (v : S40 → Int) (b : S40 → Bool) (w : World) : Prop :=
 ∀ (W : World) (x : S40), Below w.heap.size w W → Calls Try.prog g (#[.agg #[.int .i64 x.f0, .int .i64 x.f1]] ++ lb) W fun e w' => e = .returned (.tuple #[.int .i64 (v x), .bool (b x)]) ∧ Below W.heap.size W w'
theorem lim8 (l : List S40) (b : S40 → Bool) (v : S40 → Int) (n : Nat) (h : l.length ≤ 8796093021952) : ((((l.take n).filter b).map v).length + 1) * 8 ≤ 140737488355328 := by
 have h1 : (((l.take n).filter b).map v).length ≤ l.length := by
  rw [List.length_map]
  exact Nat.le_trans (List.length_filter_le _ _) (by rw [List.length_take]; omega)
 omega
theorem take_step (l : List S40) (i : Int) (h0 : 0 ≤ i) (h1 : i < l.length) : l.take (i + 1).toNat = l.take i.toNat ++ [rd_T40 l i] := by
 have e : (i + 1).toNat = i.toNat + 1 := by omega
 have hl : i.toNat < l.length := by omega
 rw [e, List.take_succ_eq_append_getElem hl]
 simp [rd_T40, List.getD_eq_getElem?_getD, hl]
set_option maxHeartbeats 8000000 in
set_option maxRecDepth 100000 in
theorem topo_ends (A0 : Option Addr) (c0 : Nat) (l : List S40) (g : Nat) (lb : Array Value) (v : S40 → Int) (b : S40 → Bool) (w : World)
 (eg : ∀ args w, (callFunc g args).run Try.prog w = .ok (.enter g args) w) (hr : Kd.C k40 w A0 l.length l) (hlen : l.length ≤ 8796093021952) (hf : FnEdge g lb v b w) :
 Calls Try.prog 66 #[.slice A0 l.length c0, .func (.func g) #[] lb] w fun e w' => ∃ v0 : Value, e = .returned v0 ∧ Kd.R (Kd.int .i64) 3 w' w.heap.size (fun _ => True) v0 (TopoMath.rise ((l.filter b).map v)) ∧ Below w.heap.size w w' := by
 have hl := hr.2.1
 have HR := Aside0.mk hr
 have HF := Aside0.mk hf
 clear hr hf
 go_enter Try.func66, Try.ntmps66
 go_wp2
 go_loopg [5, 7, 8, 9, 12] l.length (fun gg v5 v7 v8 v9 v12 W => ∃ i : Int, 0 ≤ i ∧ i ≤ l.length ∧ l.length - i.toNat ≤ gg ∧ v12 = .int .i64 i ∧ Aside0 (Below w.heap.size w W) ∧ Aside0 (Kd.R (Kd.int .i64) 3 W w.heap.size (fun _ => True) v5 (((l.take i.toNat).filter b).map v)))
 case atStart => exact ⟨0, by omega, by omega, by omega, rfl, ⟨Below.refl _ _⟩, ⟨Kd.R_nil _ _ _ _ _⟩⟩
 case round =>
  obtain ⟨i, h0, h1, hg, rfl, BW, RO⟩ := hrel
  by_cases hlt : i < l.length
  · obtain ⟨ad, e, hx0, hx1⟩ := at_T40 (Kd.C_below HR.out BW.out) i h0 hlt
    cases e
    have HX := Aside0.mk (rfl : rd_T40 l i = rd_T40 l i)
    generalize hy : rd_T40 l i = x at hx0 hx1 HX
    replace hy := Aside0.mk hy
    clear HX
    cases hq : b x with
    | true =>
     go_wp2_with fail
     refine (HF.out _ x (below_alloc BW.out _)).mono ?_
     rintro e w1 ⟨rfl, hb1⟩
     have BW1 := Aside0.mk (below_then (below_alloc BW.out _) (below_alloc BW.out _).size hb1)
     have RO1 := Aside0.mk (Kd.R_below (Kd.R_below RO.out (below_alloc (Below.refl _ _) _)) hb1)
     clear hb1
     rw [hq]
     go_wp2_with ((with_reducible refine gate_builtin (b := .append) (xs := #[.tmp 23, .tmp 25]) rfl ?_); at_builtin; go_loud (refine Kd.R_append (Kd.int .i64) (w0 := w) w.heap.size rfl (.tmp 23) (.tmp 25) 31 3 (.int .i64 0) 8 rfl Try.underlying31 info3 rfl (by decide) (by omega) u5 (((l.take i.toNat).filter b).map v) (v x) [.int .i64 (v x)] (fun _ => True) (fun _ => False) rfl rfl ?aP (fun _ hk => hk.elim) ?aF ?aO ?aB ?aS ?aL ?_); (case aP => exact rfl); (case aF => exact fun _ _ => trivial); (case aO => exact RO1.out); (case aB => exact BW1.out); (case aS => exact below_size BW1.out); (case aL => exact lim8 _ _ _ _ hlen); intro v2 w2 ho hb hg' hat; have RO2 := Aside0.mk ho; have BW2 := Aside0.mk hb; clear ho hb hg' hat)
     go_roundg (l.length - (i + 1).toNat)
     case measure => omega
     case rel => exact ⟨i + 1, by omega, by omega, Nat.le_refl _, rfl, ⟨BW2.out⟩, ⟨by rw [take_step l i h0 hlt, List.filter_append, List.map_append]; simpa [hy.out, hq] using RO2.out⟩⟩
    | false =>
     go_wp2_with fail
     refine (HF.out _ x (below_alloc BW.out _)).mono ?_
     rintro e w1 ⟨rfl, hb1⟩
     have BW1 := Aside0.mk (below_then (below_alloc BW.out _) (below_alloc BW.out _).size hb1)
     have RO1 := Aside0.mk (Kd.R_below (Kd.R_below RO.out (below_alloc (Below.refl _ _) _)) hb1)
     clear hb1
     rw [hq]
     go_wp2
     go_roundg (l.length - (i + 1).toNat)
     case measure => omega
     case rel => exact ⟨i + 1, by omega, by omega, Nat.le_refl _, rfl, ⟨BW1.out⟩, ⟨by rw [take_step l i h0 hlt, List.filter_append, List.map_append]; simpa [hy.out, hq] using RO1.out⟩⟩
  · have hi : i = l.length := by omega
    have RO' := Aside0.mk (show Kd.R (Kd.int .i64) 3 wr w.heap.size (fun _ => True) u5 ((l.filter b).map v) by have := RO.out; rwa [hi, Int.toNat_natCast, List.take_length] at this)
    clear RO hi
    have hlf : ((l.filter b).map v).length ≤ l.length := by
     rw [List.length_map]
     exact List.length_filter_le _ _
    have hlen2 := Aside0.mk (Nat.le_trans hlf hlen)
    clear hlf
    go_wp2_with fail
    refine (sort_int u5 _ _ _ wr RO'.out (by have := hlen2.out; omega)).mono ?_
    rintro e w1 ⟨rfl, h1, h1g⟩
    have R1 := Aside0.mk h1
    have B1 := Aside0.mk (pw_below_grown BW.out u5.ownBlock (below_size BW.out) h1g (own_base (Kd.own_of_R RO'.out)))
    clear h1 h1g
    go_wp2_with fail
    refine (compact_int u5 _ _ _ w1 R1.out (by have := hlen2.out; rw [List.length_mergeSort]; omega)).mono ?_
    rintro e w2 ⟨v2, rfl, h2o, h2, h2g⟩
    have R2 := Aside0.mk h2
    have B2 := Aside0.mk (pw_below_grown B1.out u5.ownBlock (below_size B1.out) h2g (own_base (Kd.own_of_R R1.out)))
    clear h2 h2g h2o
    go_wp2
    go_ret
    exact ⟨v2, rfl, by have := R2.out; rwa [compact_sorted] at this, B2.out⟩
end Go.Proofs.Ytkkfpmgmicfkfaa.X
set_option linter.unusedVariables false
/- topo.Copy. -/
namespace Go.Proofs.Ytkkfpmgmicfkfaa.X
open Go.RowKit Go.Proofs.YtkkfpmgmicfkfaaW.PrintWords Go.Proofs.YtkkfpmgmicfkfaaW.PrintLast Go.Proofs.YtkkfpmgmicfkfaaW.PrintMore Go.Proofs.Ytkkfpmgmicfkfaa
theorem box3 {w : World} {g t : Nat} {v0 v1 v2 : Value} (h : w.heap[g]? = some (.cells #[v0, v1, v2] t (0, 0))) :
 w.cell? ⟨g, 0, none⟩ = some v0 ∧ w.cell? ⟨g, 1, none⟩ = some v1 ∧ w.cell? ⟨g, 2, none⟩ = some v2 ∧ w.frozen? ⟨g, 0, none⟩ = false ∧ w.frozen? ⟨g, 1, none⟩ = false ∧ w.frozen? ⟨g, 2, none⟩ = false :=
 ⟨(blk_cell h 0).trans rfl, (blk_cell h 1).trans rfl, (blk_cell h 2).trans rfl, blk_frozen h _, blk_frozen h _, blk_frozen h _⟩
theorem cell_swap {W : World} {o1 o2 : Obj} {a : Addr} {v : Value} (ha : a.block < W.heap.size) (h : (W.alloc o1).cell? a = some v) : (W.alloc o2).cell? a = some v := by
 rw [(below_alloc (Below.refl W.heap.size W) o2).cell ha]
 rwa [(below_alloc (Below.refl W.heap.size W) o1).cell ha] at h
theorem blk_swap {W : World} {o1 o2 o : Obj} {k : Nat} (ha : k < W.heap.size) (h : (W.alloc o1).heap[k]? = some o) : (W.alloc o2).heap[k]? = some o := by
 rw [heap_alloc_old _ _ ha]
 rwa [heap_alloc_old _ _ ha] at h
theorem below_swap {W w : World} {o1 o2 : Obj} (ha : w.heap.size ≤ W.heap.size) (h : Below w.heap.size w (W.alloc o1)) : Below w.heap.size w (W.alloc o2) :=
 ⟨h.os, h.tape, h.output, by simp; omega, fun k hk => by rw [heap_alloc_old _ _ (by omega)]; rw [← h.block k hk, heap_alloc_old _ _ (by omega)]⟩
structure CopyMid (w : World) (ep : Int) (up : List Bool) (hs : List Rows1.Hd) (v1 v2 : Value) (W : World) (b : Nat) : Prop where
 r1 : Kd.R Kd.bool 4 W w.heap.size (fun _ => True) v1 up
 r2 : Kd.R Rows1.hdr 38 W w.heap.size (fun _ => True) v2 hs
 bx : W.heap[b]? = some (.cells #[.int .u64 ep, v1, v2] 29 (0, 0))
 res : W.heap[w.heap.size + 1]? = some (.cells #[.int .u64 0, .slice none 0 0, .slice none 0 0] 29 (0, 0))
 low : w.heap.size + 1 < b
 bel : Below w.heap.size w W
theorem mid_set {w : World} {ep : Int} {up : List Bool} {hs : List Rows1.Hd} {v1 v2 : Value} {W : World} {b : Nat}
 (r1 : Kd.R Kd.bool 4 W w.heap.size (fun _ => True) v1 up) (r2 : Kd.R Rows1.hdr 38 W w.heap.size (fun _ => True) v2 hs)
 (bx : W.heap[b]? = some (.cells #[.int .u64 0, .slice none 0 0, .slice none 0 0] 29 (0, 0)))
 (res : (((W.setCell ⟨b, 0, none⟩ (.int .u64 ep)).setCell ⟨b, 1, none⟩ v1).setCell ⟨b, 2, none⟩ v2).heap[w.heap.size + 1]? = some (.cells #[.int .u64 0, .slice none 0 0, .slice none 0 0] 29 (0, 0)))
 (low : w.heap.size + 1 < b) (bel : Below w.heap.size w (((W.setCell ⟨b, 0, none⟩ (.int .u64 ep)).setCell ⟨b, 1, none⟩ v1).setCell ⟨b, 2, none⟩ v2)) :
 CopyMid w ep up hs v1 v2 (((W.setCell ⟨b, 0, none⟩ (.int .u64 ep)).setCell ⟨b, 1, none⟩ v1).setCell ⟨b, 2, none⟩ v2) b := by
 have b1 := blk_put bx 0 (.int .u64 ep) rfl
 have b2 := blk_put b1 1 v1 rfl
 have b3 := blk_put b2 2 v2 rfl
 exact ⟨Kd.R_set (Kd.R_set (Kd.R_set r1 bx (by decide) _ _) b1 (by decide) _ _) b2 (by decide) _ _, Kd.R_set (Kd.R_set (Kd.R_set r2 bx (by decide) _ _) b1 (by decide) _ _) b2 (by decide) _ _, b3, res, low, bel⟩
set_option maxHeartbeats 8000000 in
set_option maxRecDepth 100000 in
theorem topo_copy (ep : Int) (A1 : Option Addr) (c1 : Nat) (up : List Bool) (A2 : Option Addr) (c2 : Nat) (hops : List (List S40)) (w : World)
 (hu : Kd.C Kd.bool w A1 up.length up) (hh : Kd.C (Kd.slice 40 k40) w A2 hops.length hops) (hlu : up.length < 140737488355328) (hlh : hops.length < 5864062014805) (hle : ∀ l ∈ hops, l.length < 8796093022208) :
 Calls Try.prog 16 #[.agg #[.int .u64 ep, .slice A1 up.length c1, .slice A2 hops.length c2]] w fun e w' => ∃ (v1 v2 : Value) (hs' : List Rows1.Hd) (f : Nat → Nat), e = .returned (.agg #[.int .u64 ep, v1, v2]) ∧ Aside0 (hs'.length = hops.length) ∧ Kd.R Kd.bool 4 w' w.heap.size (fun _ => True) v1 up ∧ Kd.R Rows1.hdr 38 w' w.heap.size (fun _ => True) v2 hs' ∧ Aside0 (∀ j (hj : j < hs'.length) (hx : j < hops.length), Kd.R k40 40 w' w.heap.size (fun k => f k = j) (Rows1.hv hs'[j]) hops[j]) ∧ Below w.heap.size w w' := by
 obtain ⟨hs, hsl, hH, hL⟩ := Rows1.heads_of_C hh
 have HU := Aside0.mk hu
 have HH := Aside0.mk hH
 have HL := Aside0.mk hL
 have hlh : hs.length < 5864062014805 := by omega
 have HSL := Aside0.mk hsl
 have HLE := Aside0.mk hle
 clear hu hh hH hL hle
 rw [← hsl] at HH
 rw [show (.slice A2 hops.length c2 : Value) = .slice A2 hs.length c2 by rw [hsl]]
 clear hsl
 go_enter Try.func16, Try.ntmps16
 go_wp2_with fail
 have hb0 : Below w.heap.size w ((w.alloc (.cells #[.int .u64 ep, .slice A1 up.length c1, .slice A2 hs.length c2] 29)).alloc (.cells #[.int .u64 0, .slice none 0 0, .slice none 0 0] 29)) := below_alloc (below_alloc (Below.refl _ _) _) _
 have hB1 : ((w.alloc (.cells #[.int .u64 ep, .slice A1 up.length c1, .slice A2 hs.length c2] 29)).alloc (.cells #[.int .u64 0, .slice none 0 0, .slice none 0 0] 29)).heap[w.heap.size]? = some (.cells #[.int .u64 ep, .slice A1 up.length c1, .slice A2 hs.length c2] 29 (0, 0)) := by
  rw [heap_alloc_old _ _ (by simp)]
  exact blk_new w _
 have hB2 : ((w.alloc (.cells #[.int .u64 ep, .slice A1 up.length c1, .slice A2 hs.length c2] 29)).alloc (.cells #[.int .u64 0, .slice none 0 0, .slice none 0 0] 29)).heap[w.heap.size + 1]? = some (.cells #[.int .u64 0, .slice none 0 0, .slice none 0 0] 29 (0, 0)) := by
  simpa using blk_new (w.alloc (.cells #[.int .u64 ep, .slice A1 up.length c1, .slice A2 hs.length c2] 29)) _
 generalize hW : ((w.alloc (.cells #[.int .u64 ep, .slice A1 up.length c1, .slice A2 hs.length c2] 29)).alloc (.cells #[.int .u64 0, .slice none 0 0, .slice none 0 0] 29)) = w1 at hb0 hB1 hB2 ⊢
 have hnf : w1.frozen? ⟨w.heap.size, 0, none⟩ = false := blk_frozen hB1 _
 rename_i Q0 K0 hK0
 have rest : ∀ (B1 : Option Addr) (d1 : Nat) (B2 : Option Addr) (d2 : Nat) (W : World) (b : Nat), CopyMid w ep up hs (.slice B1 up.length d1) (.slice B2 hs.length d2) W b → Exit.then K0 Q0 .normal { tmps := #[.agg #[.int .u64 ep, .slice A1 up.length c1, .slice A2 hs.length c2], .pointer (some ⟨w.heap.size, 0, none⟩), .pointer (some ⟨w.heap.size + 1, 0, none⟩), .pointer (some ⟨b, 0, none⟩), undef, .pointer (some ⟨w.heap.size, 0, none⟩), .int .u64 ep, .pointer (some ⟨w.heap.size, 1, none⟩), .slice A1 up.length c1, .slice B1 up.length d1, .pointer (some ⟨w.heap.size, 2, none⟩), .slice A2 hs.length c2, .slice B2 hs.length d2, .agg #[.int .u64 ep, .slice B1 up.length d1, .slice B2 hs.length d2], undef, undef, undef, undef, undef, undef, undef, undef, undef, undef, undef, undef, undef, undef, undef, undef, undef, undef], defers := [] } W := by
  clear hb0 hB1 hB2 hW hnf
  clear w1
  intro B1 d1 B2 d2 W b hm
  obtain ⟨hc0, hc1, hc2, hf0, hf1, hf2⟩ := box3 hm.bx
  have hll : hs.length ≤ 9223372036854775807 := by omega
  go_wp2_with fail
  clear hc0 hc1 hc2 hf0 hf1 hf2
  have HM := Aside0.mk hm
  have hlow := hm.low
  go_loopg [4, 17] hs.length (fun gg v4 v17 W' => ∃ (i : Int) (hs' : List Rows1.Hd) (f : Nat → Nat), 0 ≤ i ∧ i ≤ hs.length ∧ hs.length - i.toNat ≤ gg ∧ v17 = .int .i64 i ∧ hs'.length = hs.length ∧ Aside0 (CopyMid w ep up hs' (.slice B1 up.length d1) (.slice B2 hs.length d2) W' b) ∧
   Aside0 (∀ j (hj : j < hs'.length) (hx : j < hops.length), (j < i.toNat → Kd.R k40 40 W' w.heap.size (fun k => f k = j) (Rows1.hv hs'[j]) hops[j]) ∧ (i.toNat ≤ j → Rows1.Leads k40 w hs'[j] hops[j])))
  case atStart => exact ⟨0, hs, fun _ => 0, by omega, by omega, by omega, rfl, rfl, HM, ⟨fun j hj hx => ⟨fun h => absurd h (by simp), fun _ => HL.out j hj hx⟩⟩⟩
  case round =>
   clear hm HM
   obtain ⟨i, hs', f, hi0, hi1, hg, rfl, hl', HM, HX⟩ := hrel
   by_cases hlt : i < hs.length
   · have hil : i.toNat < hs'.length := by omega
     have hix : i.toNat < hops.length := by have := HSL.out; omega
     rcases Rows1.R_cases HM.out.r2 with ⟨_, e1⟩ | ⟨g, cap, e0⟩
     · rw [e1] at hil
       exact absurd hil (by simp)
     rw [← hl'] at e0
     injection e0 with eB eN ed
     subst eB
     subst ed
     clear eN
     rcases hq : hs'[i.toNat] with ⟨A0, n0, c0⟩
     have hLd := (HX.out i.toNat hil hix).2 (Nat.le_refl _)
     rw [hq] at hLd
     obtain ⟨e1, hle, hC⟩ := hLd
     have e1 : n0 = hops[i.toNat].length := e1
     subst e1
     have hlen := HLE.out _ (List.getElem_mem hix)
     generalize hx : hops[i.toNat] = l at hle hC hlen hq
     have hcl := Kd.R_celln (d := (none, 0, 0)) HM.out.r2 i hi0 hlt
     rw [show rdOf (none, 0, 0) hs' i = (A0, l.length, c0) by simp [rdOf, List.getD_eq_getElem?_getD, hil, hq]] at hcl
     obtain ⟨hcg, hfg⟩ := hcl
     have hcg : wr.drew.cell? ⟨g, i.toNat, none⟩ = some (.slice A0 l.length c0) := hcg
     have HCG := Aside0.mk hcg
     obtain ⟨gc, hg1⟩ := Kd.R_typed HM.out.r2 g rfl
     have hgb : g ≠ b := blk_ne hg1 HM.out.bx (by decide)
     have hgr : g ≠ w.heap.size + 1 := blk_ne hg1 HM.out.res (by decide)
     have hgn : w.heap.size ≤ g := Kd.R_base HM.out.r2 g rfl
     have HC := Aside0.mk hC
     have HXX := Aside0.mk hx
     have HQ := Aside0.mk hq
     have hbx2 : wr.heap[b]? = _ := HM.out.bx
     have hbel : Below w.heap.size w wr := HM.out.bel
     have hb6 := below_drew hbel
     clear hC hx hq hfg
     go_wp2_with fail
     refine Until.region (S := fun W => W.cell? ⟨b, 2, none⟩ = some (.slice (some ⟨g, 0, none⟩) hs.length d2) ∧ W.cell? ⟨g, i.toNat, none⟩ = some (.slice A0 l.length c0)) 10 (by kernel_rfl) ⟨(blk_cell hbx2 2).trans rfl, HCG.out⟩ (fun hS => ?_)
     refine Until.take (i := 0) (v := ?_) rfl (by kernel_rfl) (by kernel_rfl) (by kernel_rfl) (by kernel_rfl) (fun _ _ _ h => h) (Or.inl ⟨by rfl, ?_⟩) (by first | assumption | exact hS (by decide)) ?_
     rotate_left 1
     · intro W hW; (try dsimp only at hW); (try obtain ⟨k0, k1⟩ := hW); go_simp; (try with_reducible rfl)
     (try simp only [Act.put, List.setIfInBounds_toArray, List.set_cons_zero, List.set_cons_succ])
     refine Until.take (i := 1) (v := ?_) rfl (by kernel_rfl) (by kernel_rfl) (by kernel_rfl) (by kernel_rfl) (fun _ _ _ h => h) (Or.inl ⟨by rfl, ?_⟩) (by first | assumption | exact hS (by decide)) ?_
     rotate_left 1
     · intro W hW; (try dsimp only at hW); (try obtain ⟨k0, k1⟩ := hW); go_simp; (try with_reducible rfl)
     (try simp only [Act.put, List.setIfInBounds_toArray, List.set_cons_zero, List.set_cons_succ])
     refine Until.take (i := 2) (v := ?_) rfl (by kernel_rfl) (by kernel_rfl) (by kernel_rfl) (by kernel_rfl) (fun _ _ _ h => h) (Or.inl ⟨by rfl, ?_⟩) (by first | assumption | exact hS (by decide)) ?_
     rotate_left 1
     · intro W hW; (try dsimp only at hW); (try obtain ⟨k0, k1⟩ := hW); go_simp; (try with_reducible rfl)
     (try simp only [Act.put, List.setIfInBounds_toArray, List.set_cons_zero, List.set_cons_succ])
     refine Until.take (i := 3) (v := ?_) rfl (by kernel_rfl) (by kernel_rfl) (by kernel_rfl) (by kernel_rfl) (fun _ _ _ h => h) (Or.inl ⟨by rfl, ?_⟩) (by first | assumption | exact hS (by decide)) ?_
     rotate_left 1
     · intro W hW; (try dsimp only at hW); (try obtain ⟨k0, k1⟩ := hW); go_simp; (try with_reducible rfl)
     (try simp only [Act.put, List.setIfInBounds_toArray, List.set_cons_zero, List.set_cons_succ])
     refine Until.take (i := 4) (v := ?_) rfl (by kernel_rfl) (by kernel_rfl) (by kernel_rfl) (by kernel_rfl) (fun _ _ _ h => h) (Or.inl ⟨by rfl, ?_⟩) (by first | assumption | exact hS (by decide)) ?_
     rotate_left 1
     · intro W hW; (try dsimp only at hW); (try obtain ⟨k0, k1⟩ := hW); go_simp; (try with_reducible rfl)
     (try simp only [Act.put, List.setIfInBounds_toArray, List.set_cons_zero, List.set_cons_succ])
     refine Until.take (i := 5) (v := ?_) rfl (by kernel_rfl) (by kernel_rfl) (by kernel_rfl) (by kernel_rfl) (fun _ _ _ h => h) (Or.inl ⟨by rfl, ?_⟩) (by first | assumption | exact hS (by decide)) ?_
     rotate_left 1
     · intro W hW; (try dsimp only at hW); (try obtain ⟨k0, k1⟩ := hW); go_simp; (try with_reducible rfl)
     (try simp only [Act.put, List.setIfInBounds_toArray, List.set_cons_zero, List.set_cons_succ])
     refine Until.take (i := 6) (v := ?_) rfl (by kernel_rfl) (by kernel_rfl) (by kernel_rfl) (by kernel_rfl) (fun _ _ _ h => h) (Or.inl ⟨by rfl, ?_⟩) (by first | assumption | exact hS (by decide)) ?_
     rotate_left 1
     · intro W hW; (try dsimp only at hW); (try obtain ⟨k0, k1⟩ := hW); go_simp; (try with_reducible rfl)
     (try simp only [Act.put, List.setIfInBounds_toArray, List.set_cons_zero, List.set_cons_succ])
     refine Until.take (i := 7) (v := ?_) rfl (by kernel_rfl) (by kernel_rfl) (by kernel_rfl) (by kernel_rfl) (fun _ _ _ h => h) (Or.inl ⟨by rfl, ?_⟩) (by first | assumption | exact hS (by decide)) ?_
     rotate_left 1
     · intro W hW; (try dsimp only at hW); (try obtain ⟨k0, k1⟩ := hW); go_simp; (try with_reducible rfl)
     (try simp only [Act.put, List.setIfInBounds_toArray, List.set_cons_zero, List.set_cons_succ])
     refine Until.only (i := 8) rfl (by kernel_rfl) (fun K hK => ?_)
     go_simp
     refine (clone_edge A0 c0 l _ (Kd.C_below HC.out hb6) hlen).mono ?_
     rintro e w5 ⟨v5, rfl, hR5, hb5⟩
     obtain ⟨B5, d5, rfl⟩ := Kd.R_slice hR5
     have hcg5 := pw_cell_below hb5 HCG.out
     have hg5 := (hb5.block g (blk_lt hg1)).trans hg1
     have hfg5 := blk_frozen hg5 i.toNat
     refine hK.out _ _ (fun _ => ⟨(blk_cell ((hb5.block b (blk_lt hbx2)).trans hbx2) 2).trans rfl, hcg5⟩) (fun hS => ?_)
     clear hK
     (try simp only [Act.put, List.setIfInBounds_toArray, List.set_cons_zero, List.set_cons_succ])
     refine Until.take (i := 9) (v := ?_) rfl (by kernel_rfl) (by kernel_rfl) (by kernel_rfl) (by kernel_rfl) (fun _ _ _ h => h) (Or.inl ⟨by rfl, ?_⟩) (by first | assumption | exact hS (by decide)) ?_
     rotate_left 1
     · intro W hW; (try dsimp only at hW); (try obtain ⟨k0, k1⟩ := hW); go_simp; (try with_reducible rfl)
     (try simp only [Act.put, List.setIfInBounds_toArray, List.set_cons_zero, List.set_cons_succ])
     refine Until.only (i := 10) rfl (by kernel_rfl) (fun K hK => ?_)
     go_simp
     refine hK.out _ _ (fun h => absurd h (by decide)) (fun hS => ?_)
     clear hK hS
     refine Until.done (by kernel_rfl) ?_ _
     have hb5 : Below wr.heap.size wr w5 := ⟨hb5.os, hb5.tape, hb5.output, hb5.size, hb5.block⟩
     have hm5 : CopyMid w ep up hs' (.slice B1 up.length d1) (.slice (some ⟨g, 0, none⟩) hs.length d2) w5 b :=
      ⟨Kd.R_below HM.out.r1 hb5, Kd.R_below HM.out.r2 hb5, (hb5.block b (blk_lt hbx2)).trans hbx2, (hb5.block _ (blk_lt HM.out.res)).trans HM.out.res, hlow, below_then hbel hbel.size hb5⟩
     have hg6 := blk_set hg5 i.toNat (.slice B5 l.length d5)
     have HM6 : Aside0 (CopyMid w ep up (hs'.set i.toNat (B5, l.length, d5)) (.slice B1 up.length d1) (.slice (some ⟨g, 0, none⟩) hs.length d2) (w5.setCell ⟨g, i.toNat, none⟩ (.slice B5 l.length d5)) b) :=
      ⟨⟨Kd.R_set hm5.r1 hg5 (by decide) _ _, Kd.R_putn hm5.r2 i (B5, l.length, d5), blk_far hm5.bx hgb.symm _, blk_far hm5.res (p := ⟨g, i.toNat, none⟩) hgr.symm _, hlow, below_set hm5.bel hgn⟩⟩
     have HX6 : Aside0 (∀ j (hj : j < (hs'.set i.toNat (B5, l.length, d5)).length) (hx : j < hops.length), (j < (i + 1).toNat → Kd.R k40 40 (w5.setCell ⟨g, i.toNat, none⟩ (.slice B5 l.length d5)) w.heap.size (fun k => (if k < wr.heap.size then f k else i.toNat) = j) (Rows1.hv (hs'.set i.toNat (B5, l.length, d5))[j]) hops[j]) ∧ ((i + 1).toNat ≤ j → Rows1.Leads k40 w (hs'.set i.toNat (B5, l.length, d5))[j] hops[j])) := ⟨by
      intro j hj hx
      rw [List.length_set] at hj
      have hi1' : (i + 1).toNat = i.toNat + 1 := by omega
      refine ⟨fun hlt' => ?_, fun hge => ?_⟩
      · rcases Nat.lt_or_ge j i.toNat with hji | hji
        · rw [List.getElem_set_ne (by omega)]
          have h1 := Kd.R_bound ((HX.out j hj hx).1 hji)
          exact Kd.R_set (Kd.R_below (Kd.R_mono h1 (fun k hk => by simp only [hk.2.2.1, if_true]; exact hk.1)) hb5) hg5 (by decide) _ _
        · have hji : j = i.toNat := by omega
          subst hji
          rw [List.getElem_set_self, HXX.out]
          have h1 := Kd.R_bound hR5
          exact Kd.R_set (Kd.R_lower (Kd.R_mono h1 (fun k hk => by
           have h2 : wr.heap.size ≤ k := hk.2.1
           rw [if_neg (by omega)])) hbel.size) hg5 (by decide) _ _
      · rw [List.getElem_set_ne (by omega)]
        exact (HX.out j hj hx).2 (by omega)⟩
     clear hm5 hg6 hg5 hR5 hb5 hcg5 hfg5 hbx2 hbel hb6 hcg hg1 HCG HQ HC hle hlen HX HM
     have hwr : IntKind.i64.wrap (i + 1) = i + 1 := IntWalk.i64_in _ (by omega)
     generalize (w5.setCell ⟨g, i.toNat, none⟩ (.slice B5 l.length d5)) = w6 at HM6 HX6 ⊢
     go_wp2
     go_roundg (hs.length - (i + 1).toNat)
     case measure => omega
     case rel => exact ⟨i + 1, _, _, by omega, by omega, Nat.le_refl _, (by simp only), by rw [List.length_set]; exact hl', HM6, HX6⟩
   · have hi : i = hs.length := by omega
     obtain ⟨hc0, hc1, hc2, hf0, hf1, hf2⟩ := box3 HM.out.bx
     obtain ⟨gc0, gc1, gc2, gf0, gf1, gf2⟩ := box3 HM.out.res
     have HLX : Aside0 (hs'.length = hops.length) := ⟨by have := HSL.out; omega⟩
     have HXX : Aside0 (∀ j (hj : j < hs'.length) (hx : j < hops.length), Kd.R k40 40 wr w.heap.size (fun k => f k = j) (Rows1.hv hs'[j]) hops[j]) := ⟨fun j hj hx => (HX.out j hj hx).1 (by omega)⟩
     clear HX
     have b1 := blk_put HM.out.res 0 (.int .u64 ep) rfl
     have b2 := blk_put b1 1 (.slice B1 up.length d1) rfl
     have b3 := blk_put b2 2 (.slice B2 hs.length d2) rfl
     have HR1 := Aside0.mk (Kd.R_set (Kd.R_set (Kd.R_set HM.out.r1 HM.out.res (by decide) 0 (.int .u64 ep)) b1 (by decide) 1 (.slice B1 up.length d1)) b2 (by decide) 2 (.slice B2 hs.length d2))
     have HR2 := Aside0.mk (Kd.R_set (Kd.R_set (Kd.R_set HM.out.r2 HM.out.res (by decide) 0 (.int .u64 ep)) b1 (by decide) 1 (.slice B1 up.length d1)) b2 (by decide) 2 (.slice B2 hs.length d2))
     have HX6 : Aside0 (∀ j (hj : j < hs'.length) (hx : j < hops.length), Kd.R k40 40 (((wr.setCell ⟨w.heap.size + 1, 0, none⟩ (.int .u64 ep)).setCell ⟨w.heap.size + 1, 1, none⟩ (.slice B1 up.length d1)).setCell ⟨w.heap.size + 1, 2, none⟩ (.slice B2 hs.length d2)) w.heap.size (fun k => f k = j) (Rows1.hv hs'[j]) hops[j]) := ⟨fun j hj hx => Kd.R_set (Kd.R_set (Kd.R_set (HXX.out j hj hx) HM.out.res (by decide) _ _) b1 (by decide) _ _) b2 (by decide) _ _⟩
     have HBB := Aside0.mk (below_set (below_set (below_set HM.out.bel (show w.heap.size ≤ w.heap.size + 1 by omega) (j := 0) (v := .int .u64 ep)) (show w.heap.size ≤ w.heap.size + 1 by omega) (j := 1) (v := .slice B1 up.length d1)) (show w.heap.size ≤ w.heap.size + 1 by omega) (j := 2) (v := .slice B2 hs.length d2))
     obtain ⟨rc0, rc1, rc2, rf0, rf1, rf2⟩ := box3 b3
     have HB3 := Aside0.mk b3
     clear HXX b1 b2 b3
     go_wp2_with fail
     refine bodyPost_ret (results_cell_row rfl _ _ (w.heap.size + 1) 29 #[.int .u64 ep, .slice B1 up.length d1, .slice B2 hs.length d2] (0, 0) _ rfl HB3.out Try.underlying29 rfl (by kernel_rfl)) rfl ?_
     exact ⟨_, _, rfl, _, HLX, HR1.out, HR2.out, ⟨_, HX6⟩, HBB.out⟩
 go_region_held3 (fun W => W.cell? ⟨w.heap.size, 0, none⟩ = some (.int .u64 ep) ∧ W.cell? ⟨w.heap.size, 1, none⟩ = some (.slice A1 up.length c1) ∧ W.cell? ⟨w.heap.size, 2, none⟩ = some (.slice A2 hs.length c2) ∧ W.heap[w.heap.size + 1]? = some (.cells #[.int .u64 0, .slice none 0 0, .slice none 0 0] 29 (0, 0)) ∧ Below w.heap.size w W)
  (first
   | exact ⟨(blk_cell hB1 0).trans rfl, (blk_cell hB1 1).trans rfl, (blk_cell hB1 2).trans rfl, hB2, below_drew hb0⟩
   | ((with_reducible show World.cell? w2 _ = _ ∧ _); have h := ‹_ ∧ _ ∧ _ ∧ _ ∧ _›; exact ⟨pw_cell_below hb1 h.1, pw_cell_below hb1 h.2.1, pw_cell_below hb1 h.2.2.1, (hb1.block _ (blk_lt h.2.2.2.1)).trans h.2.2.2.1, below_then h.2.2.2.2 h.2.2.2.2.size hb1⟩)
   | ((with_reducible show World.cell? w3 _ = _ ∧ _); have h := ‹_ ∧ _ ∧ _ ∧ _ ∧ _›; exact ⟨pw_cell_below hb2 h.1, pw_cell_below hb2 h.2.1, pw_cell_below hb2 h.2.2.1, (hb2.block _ (blk_lt h.2.2.2.1)).trans h.2.2.2.1, below_then h.2.2.2.2 h.2.2.2.2.size hb2⟩)
   | ((with_reducible show World.cell? (World.alloc _ _) _ = _ ∧ _); have h := ‹_ ∧ _ ∧ _ ∧ _ ∧ _›; exact ⟨pw_cell_below (below_alloc (Below.refl _ _) _) h.1, pw_cell_below (below_alloc (Below.refl _ _) _) h.2.1, pw_cell_below (below_alloc (Below.refl _ _) _) h.2.2.1, (heap_alloc_old _ _ (blk_lt h.2.2.2.1)).trans h.2.2.2.1, below_alloc h.2.2.2.2 _⟩)
   | ((with_reducible show World.cell? (World.drew (World.alloc _ _)) _ = _ ∧ _); have h := ‹_ ∧ _ ∧ _ ∧ _ ∧ _›; exact ⟨pw_cell_below (below_alloc (Below.refl _ _) _) h.1, pw_cell_below (below_alloc (Below.refl _ _) _) h.2.1, pw_cell_below (below_alloc (Below.refl _ _) _) h.2.2.1, (heap_alloc_old _ _ (blk_lt h.2.2.2.1)).trans h.2.2.2.1, below_alloc h.2.2.2.2 _⟩)
   | ((with_reducible show World.cell? (World.setCell _ _ _) _ = _ ∧ _); have h := ‹_ ∧ _ ∧ _ ∧ _ ∧ _›; have z1 := hb1.size; have z2 := hb2.size; have z3 := blk_lt hB2; simp at z1 z2 z3; have k : ∀ (B : Nat) (W : World), Below B W w3 → B ≤ w2.heap.size → Below B W (((w3.setCell ⟨w2.heap.size, 0, none⟩ (.int .u64 ep)).setCell ⟨w2.heap.size, 1, none⟩ (.slice B1 up.length d1)).setCell ⟨w2.heap.size, 2, none⟩ (.slice B2 hs.length d2)) := fun B W k hB => ((k.setCell (p := ⟨w2.heap.size, 0, none⟩) hB _).setCell (p := ⟨w2.heap.size, 1, none⟩) hB _).setCell (p := ⟨w2.heap.size, 2, none⟩) hB _; have k0 := k w2.heap.size w3 (Below.refl _ _) (Nat.le_refl _); exact ⟨(k0.cell (show w.heap.size < w2.heap.size by omega)).trans h.1, (k0.cell (show w.heap.size < w2.heap.size by omega)).trans h.2.1, (k0.cell (show w.heap.size < w2.heap.size by omega)).trans h.2.2.1, (k0.block _ (by omega)).trans h.2.2.2.1, k _ _ h.2.2.2.2 (by omega)⟩)
   | ((with_reducible show World.cell? (World.setCell _ _ _) _ = _ ∧ _); have h := ‹_ ∧ _ ∧ _ ∧ _ ∧ _›; have z1 := hb1.size; have z2 := hb2.size; have z3 := blk_lt hB2; simp at z1 z2 z3; have k : ∀ (B : Nat) (W : World), Below B W w3 → B ≤ w1.heap.size → Below B W (((w3.setCell ⟨w1.heap.size, 0, none⟩ (.int .u64 ep)).setCell ⟨w1.heap.size, 1, none⟩ (.slice B1 up.length d1)).setCell ⟨w1.heap.size, 2, none⟩ (.slice B2 hs.length d2)) := fun B W k hB => ((k.setCell (p := ⟨w1.heap.size, 0, none⟩) hB _).setCell (p := ⟨w1.heap.size, 1, none⟩) hB _).setCell (p := ⟨w1.heap.size, 2, none⟩) hB _; have k0 := k w1.heap.size w3 (Below.refl _ _) (Nat.le_refl _); exact ⟨(k0.cell (show w.heap.size < w1.heap.size by omega)).trans h.1, (k0.cell (show w.heap.size < w1.heap.size by omega)).trans h.2.1, (k0.cell (show w.heap.size < w1.heap.size by omega)).trans h.2.2.1, (k0.block _ (by omega)).trans h.2.2.2.1, k _ _ h.2.2.2.2 (by omega)⟩)
   | ((with_reducible show World.cell? (World.alloc w3 _) _ = _ ∧ _); have h := ‹_ ∧ _ ∧ _ ∧ _ ∧ _›; have z1 := hb1.size; have z2 := hb2.size; have z3 := blk_lt hB2; simp at z1 z2 z3; exact ⟨cell_swap (show w.heap.size < w3.heap.size by omega) h.1, cell_swap (show w.heap.size < w3.heap.size by omega) h.2.1, cell_swap (show w.heap.size < w3.heap.size by omega) h.2.2.1, blk_swap (by omega) h.2.2.2.1, below_swap (by omega) h.2.2.2.2⟩))
  (first
   | (go_at_call 80; refine (clone_bool A1 c1 up _ (Kd.C_below HU.out (‹_ ∧ _ ∧ _ ∧ _ ∧ _›).2.2.2.2) hlu).mono ?_; rintro e w2 ⟨v1, rfl, hR1, hb1⟩; obtain ⟨B1, d1, rfl⟩ := Kd.R_slice hR1; have hbx := (hb1.block w1.heap.size (by simp)).trans (blk_new w1.drew _))
   | (go_at_call 80; refine (clone_bool A1 c1 up _ (Kd.C_below HU.out (‹_ ∧ _ ∧ _ ∧ _ ∧ _›).2.2.2.2) hlu).mono ?_; rintro e w2 ⟨v1, rfl, hR1, hb1⟩; obtain ⟨B1, d1, rfl⟩ := Kd.R_slice hR1)
   | (go_at_call 81; refine (clone_edges A2 c2 hs _ (Kd.C_below HH.out (‹_ ∧ _ ∧ _ ∧ _ ∧ _›).2.2.2.2) (by omega)).mono ?_; rintro e w3 ⟨v2, rfl, hR2, hb2⟩; obtain ⟨B2, d2, rfl⟩ := Kd.R_slice hR2; have hbx := (hb2.block w2.heap.size (by simp)).trans (blk_new w2 _); obtain ⟨hc0, hc1, hc2, hf0, hf1, hf2⟩ := box3 hbx)
   | (go_at_call 81; refine (clone_edges A2 c2 hs _ (Kd.C_below HH.out (‹_ ∧ _ ∧ _ ∧ _ ∧ _›).2.2.2.2) (by omega)).mono ?_; rintro e w3 ⟨v2, rfl, hR2, hb2⟩; obtain ⟨B2, d2, rfl⟩ := Kd.R_slice hR2; have hbx := (hb2.block w1.heap.size (blk_lt hbx)).trans hbx; obtain ⟨hc0, hc1, hc2, hf0, hf1, hf2⟩ := box3 hbx)
   | (go_at_call 81; refine (clone_edges A2 c2 hs _ (Kd.C_below HH.out (‹_ ∧ _ ∧ _ ∧ _ ∧ _›).2.2.2.2) (by omega)).mono ?_; rintro e w3 ⟨v2, rfl, hR2, hb2⟩; obtain ⟨B2, d2, rfl⟩ := Kd.R_slice hR2))
 · have h := ‹_ ∧ _ ∧ _ ∧ _ ∧ _›
   have z1 := hb1.size
   have z2 := hb2.size
   have z3 := blk_lt hB2
   simp at z1 z2 z3
   exact rest _ _ _ _ _ _ ⟨Kd.R_alloc (Kd.R_below (Kd.R_lower hR1 (by first | omega | (simp; omega))) hb2) _, Kd.R_alloc (Kd.R_lower hR2 (by omega)) _, blk_new _ _, h.2.2.2.1, by omega, h.2.2.2.2⟩
 · have h := ‹_ ∧ _ ∧ _ ∧ _ ∧ _›
   have z1 := hb1.size
   have z2 := hb2.size
   have z3 := blk_lt hB2
   simp at z1 z2 z3
   exact rest _ _ _ _ _ _ (mid_set (Kd.R_below (Kd.R_alloc (Kd.R_lower hR1 (by first | omega | (simp; omega))) _) hb2) (Kd.R_lower hR2 (by first | omega | (simp; omega))) hbx h.2.2.2.1 (by omega) h.2.2.2.2)
 · have h := ‹_ ∧ _ ∧ _ ∧ _ ∧ _›
   have z1 := hb1.size
   have z2 := hb2.size
   have z3 := blk_lt hB2
   simp at z1 z2 z3
   exact rest _ _ _ _ _ _ (mid_set (Kd.R_below (Kd.R_lower hR1 (by first | omega | (simp; omega))) hb2) (Kd.R_lower hR2 (by first | omega | (simp; omega))) hbx h.2.2.2.1 (by omega) h.2.2.2.2)
end Go.Proofs.Ytkkfpmgmicfkfaa.X
set_option linter.unusedVariables false
/- topo: within, edges, Next, Prev, proved by walks. -/
namespace Go.Proofs.Ytkkfpmgmicfkfaa.X
open Go.RowKit Go.Proofs.YtkkfpmgmicfkfaaW.PrintWords Go.Proofs.YtkkfpmgmicfkfaaW.PrintLast Go.Proofs.YtkkfpmgmicfkfaaW.PrintMore Go.Proofs.Ytkkfpmgmicfkfaa
theorem within_any (n a b : Int) (r : Bool) (w : World) (hr : decide (a ≤ n ∧ n ≤ b) = r) : Calls Try.prog 64 #[.int .i64 n, .int .i64 a, .int .i64 b] w fun e w' => e = .returned (.bool r) ∧ w = w' := by
 subst hr
 by_cases h1 : a ≤ n
 · have h1' : decide (a ≤ n) = true := decide_eq_true h1
   have e : decide (a ≤ n ∧ n ≤ b) = decide (n ≤ b) := by simp [h1]
   rw [e]
   clear h1 e
   go_enter Try.func64, Try.ntmps64
   go_wp2
   go_ret
   exact ⟨rfl, rfl⟩
 · have h1' : decide (a ≤ n) = false := decide_eq_false h1
   have e : decide (a ≤ n ∧ n ≤ b) = false := by simp [h1]
   rw [e]
   clear h1 e
   go_enter Try.func64, Try.ntmps64
   go_wp2
   go_ret
   exact ⟨rfl, rfl⟩
/-- A flow's edges; none, if there is no such flow. -/
def edgesOf (hops : List (List S40)) (flow : Int) : List S40 := if 0 ≤ flow ∧ flow < hops.length then Rows1.rdr hops flow else []
theorem topo_edges (ep : Int) (A1 : Option Addr) (c1 : Nat) (up : List Bool) (A2 : Option Addr) (c2 : Nat) (hops : List (List S40)) (flow : Int) (w : World)
 (hh : Kd.C (Kd.slice 40 k40) w A2 hops.length hops) :
 Calls Try.prog 94 #[.agg #[.int .u64 ep, .slice A1 up.length c1, .slice A2 hops.length c2], .int .i64 flow] w fun e w' =>
  ∃ A c, e = .returned (.slice A (edgesOf hops flow).length c) ∧ (edgesOf hops flow).length ≤ c ∧ Kd.C k40 w' A (edgesOf hops flow).length (edgesOf hops flow) ∧ Below w.heap.size w w' := by
 have hl := hh.2.1
 have HH := Aside0.mk hh
 clear hh
 by_cases hin : 0 ≤ flow ∧ flow < hops.length
 · obtain ⟨h0, h1⟩ := hin
   have e : edgesOf hops flow = Rows1.rdr hops flow := by simp [edgesOf, h0, h1]
   rw [e]
   obtain ⟨ad, A, c, eA, hc, hle, hC⟩ := Rows1.at_rows (Kd.C_below HH.out (below_alloc (Below.refl w.heap.size w) (.cells #[.int .u64 ep, .slice A1 up.length c1, .slice A2 hops.length c2] 29))) flow h0 h1
   cases eA
   have HC := Aside0.mk (And.intro hle hC)
   clear hle hC e
   generalize hxs : Rows1.rdr hops flow = xs at hc HC ⊢
   clear hxs
   go_enter Try.func94, Try.ntmps94
   go_wp2_with fail
   refine (within_any flow 0 (hops.length - 1) true _ (by simp; omega)).mono ?_
   rintro e w' ⟨rfl, rfl⟩
   go_wp2
   go_ret
   exact ⟨A, c, rfl, HC.out.1, HC.out.2, below_alloc (Below.refl _ _) _⟩
 · have e : edgesOf hops flow = [] := by simp [edgesOf, hin]
   rw [e]
   have hr : decide (0 ≤ flow ∧ flow ≤ (hops.length : Int) - 1) = false := by simp; omega
   clear e hin
   have HR := Aside0.mk hr
   clear hr
   go_enter Try.func94, Try.ntmps94
   go_wp2_with fail
   refine (within_any flow 0 (hops.length - 1) false _ HR.out).mono ?_
   rintro e w' ⟨rfl, rfl⟩
   go_wp2
   go_ret
   exact ⟨none, 0, rfl, Nat.le_refl _, ⟨rfl, by omega, fun h => absurd h (by omega)⟩, below_alloc (Below.refl _ _) _⟩
theorem topo_prev1 (node : Int) (B : Nat) (x : S40) (w : World) (hc : w.cell? ⟨B, 0, none⟩ = some (.int .i64 node)) (hB : B < w.heap.size) :
 Calls Try.prog 96 #[.agg #[.int .i64 x.f0, .int .i64 x.f1], .pointer (some ⟨B, 0, none⟩)] w fun e w' => e = .returned (.tuple #[.int .i64 x.f0, .bool (x.f1 == node)]) ∧ Below w.heap.size w w' := by
 have hne : B ≠ w.heap.size := by omega
 go_enter Try.func96, Try.ntmps96
 go_wp2
 go_quiet (fail)
 go_wp2
 go_ret2
 exact ⟨rfl, pw_below_drewN (below_alloc (Below.refl _ _) _) _⟩
/-- The next hops of a node, rising. -/
def nextOf (l : List S40) (n : Int) : List Int := TopoMath.next (·.f0) (·.f1) l n
/-- The previous ones. -/
def prevOf (l : List S40) (n : Int) : List Int := TopoMath.next (·.f1) (·.f0) l n
theorem topo_next (ep : Int) (A1 : Option Addr) (c1 : Nat) (up : List Bool) (A2 : Option Addr) (c2 : Nat) (hops : List (List S40)) (flow node : Int) (w : World)
 (hh : Kd.C (Kd.slice 40 k40) w A2 hops.length hops) (hlen : (edgesOf hops flow).length ≤ 8796093021952) :
 Calls Try.prog 24 #[.agg #[.int .u64 ep, .slice A1 up.length c1, .slice A2 hops.length c2], .int .i64 flow, .int .i64 node] w fun e w' =>
  ∃ v0 : Value, e = .returned v0 ∧ Kd.R (Kd.int .i64) 3 w' w.heap.size (fun _ => True) v0 (nextOf (edgesOf hops flow) node) ∧ Below w.heap.size w w' := by
 have HH := Aside0.mk hh
 have HL := Aside0.mk hlen
 have eg : ∀ args w, (callFunc 95 args).run Try.prog w = .ok (.enter 95 args) w := enters_of Try.func95 (by kernel_rfl) rfl
 clear hh hlen
 go_enter Try.func24, Try.ntmps24
 go_wp2_with fail
 have hb0 : Below w.heap.size w ((w.alloc (Obj.cells #[Value.int IntKind.u64 ep, Value.slice A1 up.length c1, Value.slice A2 hops.length c2] 29)).alloc (Obj.cells #[Value.int IntKind.i64 node] 3)) := below_alloc (below_alloc (Below.refl _ _) _) _
 have hc0 : ((w.alloc (Obj.cells #[Value.int IntKind.u64 ep, Value.slice A1 up.length c1, Value.slice A2 hops.length c2] 29)).alloc (Obj.cells #[Value.int IntKind.i64 node] 3)).cell? ⟨w.heap.size + 1, 0, none⟩ = some (.int .i64 node) := by go_simp
 have hs0 : w.heap.size + 1 < ((w.alloc (Obj.cells #[Value.int IntKind.u64 ep, Value.slice A1 up.length c1, Value.slice A2 hops.length c2] 29)).alloc (Obj.cells #[Value.int IntKind.i64 node] 3)).heap.size := by simp
 generalize ((w.alloc (Obj.cells #[Value.int IntKind.u64 ep, Value.slice A1 up.length c1, Value.slice A2 hops.length c2] 29)).alloc (Obj.cells #[Value.int IntKind.i64 node] 3)) = w1 at hb0 hc0 hs0 ⊢
 refine (topo_edges ep A1 c1 up A2 c2 hops flow w1 (Kd.C_below HH.out hb0)).mono ?_
 rintro e w2 ⟨A, c, rfl, hle, hC, hb1⟩
 have HC := Aside0.mk hC
 have BW := Aside0.mk (below_then hb0 hb0.size hb1)
 have hc1 := (hb1.cell (p := ⟨w.heap.size + 1, 0, none⟩) hs0).trans hc0
 have hs1 := Nat.lt_of_lt_of_le hs0 hb1.size
 clear hle hC hc0 hs0 hb0 hb1
 generalize hE : edgesOf hops flow = l at HC HL
 have HE := Aside0.mk hE
 clear hE
 go_wp2_with fail
 refine (topo_ends A c l 95 #[.pointer (some ⟨w.heap.size + 1, 0, none⟩)] (·.f1) (fun x => x.f0 == node) w2 eg HC.out HL.out (fun W x hW => ?_)).mono ?_
 · exact topo_next1 node _ x W ((hW.cell (p := ⟨w.heap.size + 1, 0, none⟩) hs1).trans hc1) (Nat.lt_of_lt_of_le hs1 hW.size)
 rintro e w3 ⟨v0, rfl, hR, hb3⟩
 have HR := Aside0.mk hR
 have BW3 := Aside0.mk (below_then BW.out BW.out.size hb3)
 have hsz := BW.out.size
 clear hR hb3 hc1 hs1
 go_wp2
 go_ret
 exact ⟨v0, rfl, by rw [HE.out]; exact Kd.R_lower HR.out hsz, BW3.out⟩
theorem topo_prev (ep : Int) (A1 : Option Addr) (c1 : Nat) (up : List Bool) (A2 : Option Addr) (c2 : Nat) (hops : List (List S40)) (flow node : Int) (w : World)
 (hh : Kd.C (Kd.slice 40 k40) w A2 hops.length hops) (hlen : (edgesOf hops flow).length ≤ 8796093021952) :
 Calls Try.prog 26 #[.agg #[.int .u64 ep, .slice A1 up.length c1, .slice A2 hops.length c2], .int .i64 flow, .int .i64 node] w fun e w' =>
  ∃ v0 : Value, e = .returned v0 ∧ Kd.R (Kd.int .i64) 3 w' w.heap.size (fun _ => True) v0 (prevOf (edgesOf hops flow) node) ∧ Below w.heap.size w w' := by
 have HH := Aside0.mk hh
 have HL := Aside0.mk hlen
 have eg : ∀ args w, (callFunc 96 args).run Try.prog w = .ok (.enter 96 args) w := enters_of Try.func96 (by kernel_rfl) rfl
 clear hh hlen
 go_enter Try.func26, Try.ntmps26
 go_wp2_with fail
 have hb0 : Below w.heap.size w ((w.alloc (Obj.cells #[Value.int IntKind.u64 ep, Value.slice A1 up.length c1, Value.slice A2 hops.length c2] 29)).alloc (Obj.cells #[Value.int IntKind.i64 node] 3)) := below_alloc (below_alloc (Below.refl _ _) _) _
 have hc0 : ((w.alloc (Obj.cells #[Value.int IntKind.u64 ep, Value.slice A1 up.length c1, Value.slice A2 hops.length c2] 29)).alloc (Obj.cells #[Value.int IntKind.i64 node] 3)).cell? ⟨w.heap.size + 1, 0, none⟩ = some (.int .i64 node) := by go_simp
 have hs0 : w.heap.size + 1 < ((w.alloc (Obj.cells #[Value.int IntKind.u64 ep, Value.slice A1 up.length c1, Value.slice A2 hops.length c2] 29)).alloc (Obj.cells #[Value.int IntKind.i64 node] 3)).heap.size := by simp
 generalize ((w.alloc (Obj.cells #[Value.int IntKind.u64 ep, Value.slice A1 up.length c1, Value.slice A2 hops.length c2] 29)).alloc (Obj.cells #[Value.int IntKind.i64 node] 3)) = w1 at hb0 hc0 hs0 ⊢
 refine (topo_edges ep A1 c1 up A2 c2 hops flow w1 (Kd.C_below HH.out hb0)).mono ?_
 rintro e w2 ⟨A, c, rfl, hle, hC, hb1⟩
 have HC := Aside0.mk hC
 have BW := Aside0.mk (below_then hb0 hb0.size hb1)
 have hc1 := (hb1.cell (p := ⟨w.heap.size + 1, 0, none⟩) hs0).trans hc0
 have hs1 := Nat.lt_of_lt_of_le hs0 hb1.size
 clear hle hC hc0 hs0 hb0 hb1
 generalize hE : edgesOf hops flow = l at HC HL
 have HE := Aside0.mk hE
 clear hE
 go_wp2_with fail
 refine (topo_ends A c l 96 #[.pointer (some ⟨w.heap.size + 1, 0, none⟩)] (·.f0) (fun x => x.f1 == node) w2 eg HC.out HL.out (fun W x hW => ?_)).mono ?_
 · exact topo_prev1 node _ x W ((hW.cell (p := ⟨w.heap.size + 1, 0, none⟩) hs1).trans hc1) (Nat.lt_of_lt_of_le hs1 hW.size)
 rintro e w3 ⟨v0, rfl, hR, hb3⟩
 have HR := Aside0.mk hR
 have BW3 := Aside0.mk (below_then BW.out BW.out.size hb3)
 have hsz := BW.out.size
 clear hR hb3 hc1 hs1
 go_wp2
 go_ret
 exact ⟨v0, rfl, by rw [HE.out]; exact Kd.R_lower HR.out hsz, BW3.out⟩
def topo_Next.f (a0_0 : Int) (l0_1 : List Bool) (l0_2 : List (List S40)) (a1 a2 : Int) : Option (List Int) := if (edgesOf l0_2 a1).length ≤ 8796093021952 then some (nextOf (edgesOf l0_2 a1) a2) else none
theorem topo_Next.calls (a0_0 : Int) (A0_1 : Option Addr) (c0_1 : Nat) (l0_1 : List Bool) (A0_2 : Option Addr) (c0_2 : Nat) (l0_2 : List (List S40)) (a1 : Int) (a2 : Int) (r : List Int) (w : World) (hr0_1 : Kd.C Kd.bool w A0_1 l0_1.length l0_1) (hc0_1 : l0_1.length ≤ c0_1) (hr0_2 : Kd.C (Kd.slice 40 k40) w A0_2 l0_2.length l0_2) (hc0_2 : l0_2.length ≤ c0_2) (h : topo_Next.f a0_0 l0_1 l0_2 a1 a2 = some r) :
 Calls Try.prog 24 #[.agg #[.int .u64 a0_0, .slice A0_1 l0_1.length c0_1, .slice A0_2 l0_2.length c0_2], .int .i64 a1, .int .i64 a2] w fun e w' => ∃ v0_ : Value, e = .returned (v0_) ∧ Kd.R (Kd.int .i64) 3 w' w.heap.size (fun _ => True) v0_ r ∧ Below w.heap.size w w' := by
 unfold topo_Next.f at h
 split at h
 · rename_i hl
   injection h with h
   subst h
   exact topo_next a0_0 A0_1 c0_1 l0_1 A0_2 c0_2 l0_2 a1 a2 w hr0_2 hl
 · cases h
def topo_Prev.f (a0_0 : Int) (l0_1 : List Bool) (l0_2 : List (List S40)) (a1 a2 : Int) : Option (List Int) := if (edgesOf l0_2 a1).length ≤ 8796093021952 then some (prevOf (edgesOf l0_2 a1) a2) else none
theorem topo_Prev.calls (a0_0 : Int) (A0_1 : Option Addr) (c0_1 : Nat) (l0_1 : List Bool) (A0_2 : Option Addr) (c0_2 : Nat) (l0_2 : List (List S40)) (a1 : Int) (a2 : Int) (r : List Int) (w : World) (hr0_1 : Kd.C Kd.bool w A0_1 l0_1.length l0_1) (hc0_1 : l0_1.length ≤ c0_1) (hr0_2 : Kd.C (Kd.slice 40 k40) w A0_2 l0_2.length l0_2) (hc0_2 : l0_2.length ≤ c0_2) (h : topo_Prev.f a0_0 l0_1 l0_2 a1 a2 = some r) :
 Calls Try.prog 26 #[.agg #[.int .u64 a0_0, .slice A0_1 l0_1.length c0_1, .slice A0_2 l0_2.length c0_2], .int .i64 a1, .int .i64 a2] w fun e w' => ∃ v0_ : Value, e = .returned (v0_) ∧ Kd.R (Kd.int .i64) 3 w' w.heap.size (fun _ => True) v0_ r ∧ Below w.heap.size w w' := by
 unfold topo_Prev.f at h
 split at h
 · rename_i hl
   injection h with h
   subst h
   exact topo_prev a0_0 A0_1 c0_1 l0_1 A0_2 c0_2 l0_2 a1 a2 w hr0_2 hl
 · cases h
end Go.Proofs.Ytkkfpmgmicfkfaa.X
/- Printed by a program of this session's own (wip/tools/xprint.py) out of the translation: functions as plain Lean, and their walks. -/
namespace Go.Proofs.Ytkkfpmgmicfkfaa.X
open Go.RowKit Go.Proofs.YtkkfpmgmicfkfaaW.PrintWords Go.Proofs.YtkkfpmgmicfkfaaW.PrintLast Go.Proofs.YtkkfpmgmicfkfaaW.PrintMore
attribute [local go_sem] max2_int min2_int max_two min_two max_three min_three max_four min_four   -- for this text's walks alone
set_option linter.unusedVariables false
set_option linter.unusedSimpArgs false
theorem eqA40 (d : Nat) (w : World) (x0 y0 : Int) (x1 y1 : Int) :
 (Op.equalIn (d + 2) 40 (.agg #[.int .i64 x0, .int .i64 x1]) (.agg #[.int .i64 y0, .int .i64 y1])).run Try.prog w = .ok (x0 == y0 && (x1 == y1)) w := by
 refine eqA_of Try.underlying40 (by kernel_rfl) ?_
 refine eqf_cons (by rfl) (by go_simp; rfl) (by go_simp; rfl) (by go_simp) ?_
 exact eqf_last (by rfl) (by go_simp; rfl) (by go_simp; rfl) (by go_simp)
end Go.Proofs.Ytkkfpmgmicfkfaa.X
/- Printed by a program of this session's own (wip/tools/xprint.py) out of the translation: functions as plain Lean, and their walks. -/
namespace Go.Proofs.Ytkkfpmgmicfkfaa.X
open Go.RowKit Go.Proofs.YtkkfpmgmicfkfaaW.PrintWords Go.Proofs.YtkkfpmgmicfkfaaW.PrintLast Go.Proofs.YtkkfpmgmicfkfaaW.PrintMore
attribute [local go_sem] max2_int min2_int max_two min_two max_three min_three max_four min_four   -- for this text's walks alone
set_option linter.unusedVariables false
set_option linter.unusedSimpArgs false
attribute [local go_sem high] eqA40
/-! ### slices_Equal_bool_bool: function 83 -/
def slices_Equal_bool_bool.l0 : Nat → List Bool → List Bool → Int → Int → Option (Bool)
 | 0, _, _, _, _ => none
 | k + 1, x0, x1, x12, x13 => if x13 < x12 then (if 0 ≤ x13 then (if x13 < (x0.length : Int) then (if x13 < (x1.length : Int) then (if ((rdOf false x0 x13) != (rdOf false x1 x13)) = true then (some false) else (slices_Equal_bool_bool.l0 k x0 x1 x12 (wrap64 (x13 + 1)))) else (none)) else (none)) else (none)) else (some true)
def slices_Equal_bool_bool.f (k : Nat) (l0 : List Bool) (l1 : List Bool) : Option (Bool) := if (l0.length : Int) = (l1.length : Int) then (slices_Equal_bool_bool.l0 k l0 l1 (l0.length : Int) 0) else (some false)
theorem slices_Equal_bool_bool.mono_l : ∀ k, (∀ y0 y1 y2 y3, LeO (slices_Equal_bool_bool.l0 k y0 y1 y2 y3) (slices_Equal_bool_bool.l0 (k + 1) y0 y1 y2 y3))
 | 0 => fun _ _ _ _ r h => by simp [slices_Equal_bool_bool.l0] at h
 | k + 1 => by
  have ih0 := slices_Equal_bool_bool.mono_l k
  · intro y0 y1 y2 y3
    unfold slices_Equal_bool_bool.l0
    repeat' first
    | (with_reducible exact ih0 _ _ _ _)
    | (with_reducible exact LeO.refl _)
    | (with_reducible exact LeO.none _)
    | (with_reducible refine LeO.ite ?_ ?_)
    | (with_reducible refine LeO.bind ?_ (fun _ => ?_))
    | exact ih0 _ _ _ _
    | exact LeO.none _
    | refine LeO.ite ?_ ?_
    | refine LeO.bind ?_ (fun _ => ?_)
theorem slices_Equal_bool_bool.mono : ∀ a0 a1 k, LeO (slices_Equal_bool_bool.f k a0 a1) (slices_Equal_bool_bool.f (k + 1) a0 a1) := by
 intro a0 a1 k
 have ih0 := slices_Equal_bool_bool.mono_l k
 unfold slices_Equal_bool_bool.f
 repeat' first
  | (with_reducible exact ih0 _ _ _ _)
  | (with_reducible exact LeO.refl _)
  | (with_reducible exact LeO.none _)
  | (with_reducible refine LeO.ite ?_ ?_)
  | (with_reducible refine LeO.bind ?_ (fun _ => ?_))
  | exact ih0 _ _ _ _
  | exact LeO.none _
  | refine LeO.ite ?_ ?_
  | refine LeO.bind ?_ (fun _ => ?_)
set_option maxHeartbeats 8000000 in
set_option maxRecDepth 100000 in
theorem slices_Equal_bool_bool.calls (k : Nat) (A0 : Option Addr) (c0 : Nat) (l0 : List Bool) (A1 : Option Addr) (c1 : Nat) (l1 : List Bool) (r : Bool) (w : World) (hr0 : Kd.C Kd.bool w A0 l0.length l0) (hc0 : l0.length ≤ c0) (hr1 : Kd.C Kd.bool w A1 l1.length l1) (hc1 : l1.length ≤ c1) (h : slices_Equal_bool_bool.f k l0 l1 = some r) :
 Calls Try.prog 83 #[.slice A0 l0.length c0, .slice A1 l1.length c1] w fun e w' => e = .returned (.bool r) ∧ Drawn0 w w' := by
 have HR0 := Aside0.mk hr0
 have HC0 := Aside0.mk hc0
 clear hr0 hc0
 have HR1 := Aside0.mk hr1
 have HC1 := Aside0.mk hc1
 clear hr1 hc1
 have H : (if (l0.length : Int) = (l1.length : Int) then (slices_Equal_bool_bool.l0 k l0 l1 (l0.length : Int) 0) else (some false)) = some r := h
 clear h
 by_cases c3 : (l0.length : Int) = (l1.length : Int)
 · rw [if_pos c3] at H
   have c3b0 : ((l0.length : Int) == (l1.length : Int)) = true := beq_iff_eq.mpr c3
   have c3b1 : ((l0.length : Int) != (l1.length : Int)) = false := bne_eq_false_iff_eq.mpr c3
   have c3b2 : (l0.length == l1.length) = true := by first | simpa using c3 | (simp at c3 ⊢; omega)
   clear c3
   have H' := Aside0.mk H
   clear H
   go_enter Try.func83, Try.ntmps83
   go_wp2
   repeat (go_quiet (fail); try go_wp2)
   go_loopg [13] k (fun kq v13 w' => ∃ (x13_1 : Int), v13 = .int .i64 x13_1 ∧ Aside0 (slices_Equal_bool_bool.l0 kq l0 l1 (l0.length : Int) x13_1 = some r) ∧ Aside0 (kq ≤ k) ∧ Drawn0 w w')
   case atStart => exact ⟨(0), (by first | rfl | (simp; done) | (simp [*]; done)), H', ⟨Nat.le_refl _⟩, by repeat (first | exact Drawn0.refl _ | apply Drawn0.step)⟩
   case round =>
    clear H'
    try clear c1
    try clear p2
    try clear c3
    try clear c3b0
    try clear c3b1
    try clear c3b2
    obtain ⟨x13_1, rfl, HA, HK1, ⟨m1, rfl⟩⟩ := hrel
    cases gk with
    | zero => exact absurd HA.out (by simp [slices_Equal_bool_bool.l0])
    | succ k1 =>
     have H := HA.out
     clear HA
     simp only [slices_Equal_bool_bool.l0] at H
     by_cases c4 : x13_1 < (l0.length : Int)
     · rw [if_pos c4] at H
       have c4b0 : decide (x13_1 < (l0.length : Int)) = true := decide_eq_true c4
       clear c4
       by_cases c5 : 0 ≤ x13_1
       · rw [if_pos c5] at H
         have c5b0 : decide (0 ≤ x13_1) = true := decide_eq_true c5
         clear c5
         by_cases c6 : x13_1 < (l0.length : Int)
         · rw [if_pos c6] at H
           have c6b0 : decide (x13_1 < (l0.length : Int)) = true := decide_eq_true c6
           clear c6
           by_cases c7 : x13_1 < (l1.length : Int)
           · rw [if_pos c7] at H
             have c7b0 : decide (x13_1 < (l1.length : Int)) = true := decide_eq_true c7
             clear c7
             by_cases c8 : ((rdOf false l0 x13_1) != (rdOf false l1 x13_1)) = true
             · rw [if_pos c8] at H
               have c8b0 : ((rdOf false l0 x13_1) != (rdOf false l1 x13_1)) = true := c8
               (try (have c8b1 : decide ((rdOf false l0 x13_1) = (rdOf false l1 x13_1)) = false := by simpa using c8))
               (try (have c8b2 : ((rdOf false l0 x13_1) == (rdOf false l1 x13_1)) = false := by simpa using c8))
               (try (have c8b3 : ¬ ((rdOf false l0 x13_1) = (rdOf false l1 x13_1)) := by simpa using c8))
               clear c8
               obtain rfl := Option.some.inj H
               have p383 : 0 ≤ (x13_1 : Int) := of_decide_eq_true (by first | (with_reducible assumption) | assumption)
               have q383 : x13_1 < (l0.length : Int) := of_decide_eq_true (by first | (with_reducible assumption) | assumption)
               obtain ⟨ad383, e383, hx383_0⟩ := Kd.at_bool HR0.out x13_1 p383 q383
               cases e383
               replace p383 := eq_true p383
               replace q383 := eq_true q383
               have p384 : 0 ≤ (x13_1 : Int) := of_decide_eq_true (by first | (with_reducible assumption) | assumption)
               have q384 : x13_1 < (l1.length : Int) := of_decide_eq_true (by first | (with_reducible assumption) | assumption)
               obtain ⟨ad384, e384, hx384_0⟩ := Kd.at_bool HR1.out x13_1 p384 q384
               cases e384
               replace p384 := eq_true p384
               replace q384 := eq_true q384
               go_wp2
               repeat (go_quiet (fail); try go_wp2)
               go_ret
               exact ⟨by first | rfl | (simp; done) | (simp [*]; done), by repeat (first | exact Drawn0.refl _ | apply Drawn0.step)⟩
             · rw [if_neg c8] at H
               have c8b0 : ((rdOf false l0 x13_1) != (rdOf false l1 x13_1)) = false := by simpa using c8
               (try (have c8b1 : decide ((rdOf false l0 x13_1) = (rdOf false l1 x13_1)) = true := by simpa using c8))
               (try (have c8b2 : ((rdOf false l0 x13_1) == (rdOf false l1 x13_1)) = true := by simpa using c8))
               clear c8
               have H' := Aside0.mk H
               clear H
               have p383 : 0 ≤ (x13_1 : Int) := of_decide_eq_true (by first | (with_reducible assumption) | assumption)
               have q383 : x13_1 < (l0.length : Int) := of_decide_eq_true (by first | (with_reducible assumption) | assumption)
               obtain ⟨ad383, e383, hx383_0⟩ := Kd.at_bool HR0.out x13_1 p383 q383
               cases e383
               replace p383 := eq_true p383
               replace q383 := eq_true q383
               have p384 : 0 ≤ (x13_1 : Int) := of_decide_eq_true (by first | (with_reducible assumption) | assumption)
               have q384 : x13_1 < (l1.length : Int) := of_decide_eq_true (by first | (with_reducible assumption) | assumption)
               obtain ⟨ad384, e384, hx384_0⟩ := Kd.at_bool HR1.out x13_1 p384 q384
               cases e384
               replace p384 := eq_true p384
               replace q384 := eq_true q384
               go_wp2
               repeat (go_quiet (fail); try go_wp2)
               go_roundg k1
               case measure => have := HK1.out; omega
               case rel => exact ⟨(wrap64 (x13_1 + 1)), (by first | rfl | (simp; done) | (simp [*]; done)), H', ⟨by have := HK1.out; omega⟩, by repeat (first | exact Drawn0.refl _ | apply Drawn0.step)⟩
           · rw [if_neg c7] at H
             exact absurd H (by simp)
         · rw [if_neg c6] at H
           exact absurd H (by simp)
       · rw [if_neg c5] at H
         exact absurd H (by simp)
     · rw [if_neg c4] at H
       have c4b0 : decide (x13_1 < (l0.length : Int)) = false := decide_eq_false c4
       clear c4
       obtain rfl := Option.some.inj H
       go_wp2
       repeat (go_quiet (fail); try go_wp2)
       go_ret
       exact ⟨by first | rfl | (simp; done) | (simp [*]; done), by repeat (first | exact Drawn0.refl _ | apply Drawn0.step)⟩
 · rw [if_neg c3] at H
   have c3b0 : ((l0.length : Int) == (l1.length : Int)) = false := beq_eq_false_iff_ne.mpr c3
   have c3b1 : ((l0.length : Int) != (l1.length : Int)) = true := bne_iff_ne.mpr c3
   have c3b2 : (l0.length == l1.length) = false := by first | simpa using c3 | (simp at c3 ⊢; omega)
   obtain rfl := Option.some.inj H
   go_enter Try.func83, Try.ntmps83
   go_wp2
   repeat (go_quiet (fail); try go_wp2)
   go_ret
   exact ⟨by first | rfl | (simp; done) | (simp [*]; done), by repeat (first | exact Drawn0.refl _ | apply Drawn0.step)⟩
/-! ### api_Edge_85: function 85 -/
def api_Edge_85.l0 : Nat → List (S40) → List (S40) → Int → Int → Option (Bool)
 | 0, _, _, _, _ => none
 | k + 1, x0, x1, x12, x13 => if x13 < x12 then (if 0 ≤ x13 then (if x13 < (x0.length : Int) then (if x13 < (x1.length : Int) then (if (!(((rd_T40 x0 x13).f0) == ((rd_T40 x1 x13).f0)) || (!(((rd_T40 x0 x13).f1) == ((rd_T40 x1 x13).f1)))) = true then (some false) else (api_Edge_85.l0 k x0 x1 x12 (wrap64 (x13 + 1)))) else (none)) else (none)) else (none)) else (some true)
def api_Edge_85.f (k : Nat) (l0 : List (S40)) (l1 : List (S40)) : Option (Bool) := if (l0.length : Int) = (l1.length : Int) then (api_Edge_85.l0 k l0 l1 (l0.length : Int) 0) else (some false)
theorem api_Edge_85.mono_l : ∀ k, (∀ y0 y1 y2 y3, LeO (api_Edge_85.l0 k y0 y1 y2 y3) (api_Edge_85.l0 (k + 1) y0 y1 y2 y3))
 | 0 => fun _ _ _ _ r h => by simp [api_Edge_85.l0] at h
 | k + 1 => by
  have ih0 := api_Edge_85.mono_l k
  · intro y0 y1 y2 y3
    unfold api_Edge_85.l0
    repeat' first
    | (with_reducible exact ih0 _ _ _ _)
    | (with_reducible exact LeO.refl _)
    | (with_reducible exact LeO.none _)
    | (with_reducible refine LeO.ite ?_ ?_)
    | (with_reducible refine LeO.bind ?_ (fun _ => ?_))
    | exact ih0 _ _ _ _
    | exact LeO.none _
    | refine LeO.ite ?_ ?_
    | refine LeO.bind ?_ (fun _ => ?_)
theorem api_Edge_85.mono : ∀ a0 a1 k, LeO (api_Edge_85.f k a0 a1) (api_Edge_85.f (k + 1) a0 a1) := by
 intro a0 a1 k
 have ih0 := api_Edge_85.mono_l k
 unfold api_Edge_85.f
 repeat' first
  | (with_reducible exact ih0 _ _ _ _)
  | (with_reducible exact LeO.refl _)
  | (with_reducible exact LeO.none _)
  | (with_reducible refine LeO.ite ?_ ?_)
  | (with_reducible refine LeO.bind ?_ (fun _ => ?_))
  | exact ih0 _ _ _ _
  | exact LeO.none _
  | refine LeO.ite ?_ ?_
  | refine LeO.bind ?_ (fun _ => ?_)
set_option maxHeartbeats 8000000 in
set_option maxRecDepth 100000 in
theorem api_Edge_85.calls (k : Nat) (A0 : Option Addr) (c0 : Nat) (l0 : List (S40)) (A1 : Option Addr) (c1 : Nat) (l1 : List (S40)) (r : Bool) (w : World) (hr0 : Kd.C k40 w A0 l0.length l0) (hc0 : l0.length ≤ c0) (hr1 : Kd.C k40 w A1 l1.length l1) (hc1 : l1.length ≤ c1) (h : api_Edge_85.f k l0 l1 = some r) :
 Calls Try.prog 85 #[.slice A0 l0.length c0, .slice A1 l1.length c1] w fun e w' => e = .returned (.bool r) ∧ Drawn0 w w' := by
 have hu40 := Try.underlying40
 have HR0 := Aside0.mk hr0
 have HC0 := Aside0.mk hc0
 clear hr0 hc0
 have HR1 := Aside0.mk hr1
 have HC1 := Aside0.mk hc1
 clear hr1 hc1
 have H : (if (l0.length : Int) = (l1.length : Int) then (api_Edge_85.l0 k l0 l1 (l0.length : Int) 0) else (some false)) = some r := h
 clear h
 by_cases c3 : (l0.length : Int) = (l1.length : Int)
 · rw [if_pos c3] at H
   have c3b0 : ((l0.length : Int) == (l1.length : Int)) = true := beq_iff_eq.mpr c3
   have c3b1 : ((l0.length : Int) != (l1.length : Int)) = false := bne_eq_false_iff_eq.mpr c3
   have c3b2 : (l0.length == l1.length) = true := by first | simpa using c3 | (simp at c3 ⊢; omega)
   clear c3
   have H' := Aside0.mk H
   clear H
   go_enter Try.func85, Try.ntmps85
   go_wp2
   repeat (go_quiet (fail); try go_wp2)
   go_loopg [13] k (fun kq v13 w' => ∃ (x13_1 : Int), v13 = .int .i64 x13_1 ∧ Aside0 (api_Edge_85.l0 kq l0 l1 (l0.length : Int) x13_1 = some r) ∧ Aside0 (kq ≤ k) ∧ Drawn0 w w')
   case atStart => exact ⟨(0), (by first | rfl | (simp; done) | (simp [*]; done)), H', ⟨Nat.le_refl _⟩, by repeat (first | exact Drawn0.refl _ | apply Drawn0.step)⟩
   case round =>
    clear H'
    try clear c1
    try clear p2
    try clear c3
    try clear c3b0
    try clear c3b1
    try clear c3b2
    obtain ⟨x13_1, rfl, HA, HK1, ⟨m1, rfl⟩⟩ := hrel
    cases gk with
    | zero => exact absurd HA.out (by simp [api_Edge_85.l0])
    | succ k1 =>
     have H := HA.out
     clear HA
     simp only [api_Edge_85.l0] at H
     by_cases c4 : x13_1 < (l0.length : Int)
     · rw [if_pos c4] at H
       have c4b0 : decide (x13_1 < (l0.length : Int)) = true := decide_eq_true c4
       clear c4
       by_cases c5 : 0 ≤ x13_1
       · rw [if_pos c5] at H
         have c5b0 : decide (0 ≤ x13_1) = true := decide_eq_true c5
         clear c5
         by_cases c6 : x13_1 < (l0.length : Int)
         · rw [if_pos c6] at H
           have c6b0 : decide (x13_1 < (l0.length : Int)) = true := decide_eq_true c6
           clear c6
           by_cases c7 : x13_1 < (l1.length : Int)
           · rw [if_pos c7] at H
             have c7b0 : decide (x13_1 < (l1.length : Int)) = true := decide_eq_true c7
             clear c7
             by_cases c8 : (!(((rd_T40 l0 x13_1).f0) == ((rd_T40 l1 x13_1).f0)) || (!(((rd_T40 l0 x13_1).f1) == ((rd_T40 l1 x13_1).f1)))) = true
             · rw [if_pos c8] at H
               have c8b0 : (!(((rd_T40 l0 x13_1).f0) == ((rd_T40 l1 x13_1).f0)) || (!(((rd_T40 l0 x13_1).f1) == ((rd_T40 l1 x13_1).f1)))) = true := c8
               clear c8
               obtain rfl := Option.some.inj H
               have p385 : 0 ≤ (x13_1 : Int) := of_decide_eq_true (by first | (with_reducible assumption) | assumption)
               have q385 : x13_1 < (l0.length : Int) := of_decide_eq_true (by first | (with_reducible assumption) | assumption)
               obtain ⟨ad385, e385, hx385_0, hx385_1⟩ := at_T40 HR0.out x13_1 p385 q385
               cases e385
               replace p385 := eq_true p385
               replace q385 := eq_true q385
               have p386 : 0 ≤ (x13_1 : Int) := of_decide_eq_true (by first | (with_reducible assumption) | assumption)
               have q386 : x13_1 < (l1.length : Int) := of_decide_eq_true (by first | (with_reducible assumption) | assumption)
               obtain ⟨ad386, e386, hx386_0, hx386_1⟩ := at_T40 HR1.out x13_1 p386 q386
               cases e386
               replace p386 := eq_true p386
               replace q386 := eq_true q386
               go_wp2
               repeat (go_quiet (fail); try go_wp2)
               go_ret
               exact ⟨by first | rfl | (simp; done) | (simp [*]; done), by repeat (first | exact Drawn0.refl _ | apply Drawn0.step)⟩
             · rw [if_neg c8] at H
               have c8b0 : (!(((rd_T40 l0 x13_1).f0) == ((rd_T40 l1 x13_1).f0)) || (!(((rd_T40 l0 x13_1).f1) == ((rd_T40 l1 x13_1).f1)))) = false := by simpa using c8
               clear c8
               have H' := Aside0.mk H
               clear H
               have p385 : 0 ≤ (x13_1 : Int) := of_decide_eq_true (by first | (with_reducible assumption) | assumption)
               have q385 : x13_1 < (l0.length : Int) := of_decide_eq_true (by first | (with_reducible assumption) | assumption)
               obtain ⟨ad385, e385, hx385_0, hx385_1⟩ := at_T40 HR0.out x13_1 p385 q385
               cases e385
               replace p385 := eq_true p385
               replace q385 := eq_true q385
               have p386 : 0 ≤ (x13_1 : Int) := of_decide_eq_true (by first | (with_reducible assumption) | assumption)
               have q386 : x13_1 < (l1.length : Int) := of_decide_eq_true (by first | (with_reducible assumption) | assumption)
               obtain ⟨ad386, e386, hx386_0, hx386_1⟩ := at_T40 HR1.out x13_1 p386 q386
               cases e386
               replace p386 := eq_true p386
               replace q386 := eq_true q386
               go_wp2
               repeat (go_quiet (fail); try go_wp2)
               go_roundg k1
               case measure => have := HK1.out; omega
               case rel => exact ⟨(wrap64 (x13_1 + 1)), (by first | rfl | (simp; done) | (simp [*]; done)), H', ⟨by have := HK1.out; omega⟩, by repeat (first | exact Drawn0.refl _ | apply Drawn0.step)⟩
           · rw [if_neg c7] at H
             exact absurd H (by simp)
         · rw [if_neg c6] at H
           exact absurd H (by simp)
       · rw [if_neg c5] at H
         exact absurd H (by simp)
     · rw [if_neg c4] at H
       have c4b0 : decide (x13_1 < (l0.length : Int)) = false := decide_eq_false c4
       clear c4
       obtain rfl := Option.some.inj H
       go_wp2
       repeat (go_quiet (fail); try go_wp2)
       go_ret
       exact ⟨by first | rfl | (simp; done) | (simp [*]; done), by repeat (first | exact Drawn0.refl _ | apply Drawn0.step)⟩
 · rw [if_neg c3] at H
   have c3b0 : ((l0.length : Int) == (l1.length : Int)) = false := beq_eq_false_iff_ne.mpr c3
   have c3b1 : ((l0.length : Int) != (l1.length : Int)) = true := bne_iff_ne.mpr c3
   have c3b2 : (l0.length == l1.length) = false := by first | simpa using c3 | (simp at c3 ⊢; omega)
   obtain rfl := Option.some.inj H
   go_enter Try.func85, Try.ntmps85
   go_wp2
   repeat (go_quiet (fail); try go_wp2)
   go_ret
   exact ⟨by first | rfl | (simp; done) | (simp [*]; done), by repeat (first | exact Drawn0.refl _ | apply Drawn0.step)⟩
/-! ### braidworkref19_Same: function 19 -/
def braidworkref19_Same.l0 : Nat → List Int → List Int → Int → Option (Bool)
 | 0, _, _, _ => none
 | k + 1, x0, x1, x5 => if x5 < (x0.length : Int) then (if 0 ≤ x5 then (if x5 < (x1.length : Int) then (if (rd x0 x5) = (rd x1 x5) then (braidworkref19_Same.l0 k x0 x1 (wrap64 (x5 + 1))) else (some false)) else (none)) else (none)) else (some true)
def braidworkref19_Same.f (k : Nat) (l0 : List Int) (l1 : List Int) : Option (Bool) := if (l0.length : Int) = (l1.length : Int) then (braidworkref19_Same.l0 k l0 l1 0) else (some false)
theorem braidworkref19_Same.mono_l : ∀ k, (∀ y0 y1 y2, LeO (braidworkref19_Same.l0 k y0 y1 y2) (braidworkref19_Same.l0 (k + 1) y0 y1 y2))
 | 0 => fun _ _ _ r h => by simp [braidworkref19_Same.l0] at h
 | k + 1 => by
  have ih0 := braidworkref19_Same.mono_l k
  · intro y0 y1 y2
    unfold braidworkref19_Same.l0
    repeat' first
    | (with_reducible exact ih0 _ _ _)
    | (with_reducible exact LeO.refl _)
    | (with_reducible exact LeO.none _)
    | (with_reducible refine LeO.ite ?_ ?_)
    | (with_reducible refine LeO.bind ?_ (fun _ => ?_))
    | exact ih0 _ _ _
    | exact LeO.none _
    | refine LeO.ite ?_ ?_
    | refine LeO.bind ?_ (fun _ => ?_)
theorem braidworkref19_Same.mono : ∀ a0 a1 k, LeO (braidworkref19_Same.f k a0 a1) (braidworkref19_Same.f (k + 1) a0 a1) := by
 intro a0 a1 k
 have ih0 := braidworkref19_Same.mono_l k
 unfold braidworkref19_Same.f
 repeat' first
  | (with_reducible exact ih0 _ _ _)
  | (with_reducible exact LeO.refl _)
  | (with_reducible exact LeO.none _)
  | (with_reducible refine LeO.ite ?_ ?_)
  | (with_reducible refine LeO.bind ?_ (fun _ => ?_))
  | exact ih0 _ _ _
  | exact LeO.none _
  | refine LeO.ite ?_ ?_
  | refine LeO.bind ?_ (fun _ => ?_)
set_option maxHeartbeats 8000000 in
set_option maxRecDepth 100000 in
theorem braidworkref19_Same.calls (k : Nat) (A0 : Option Addr) (c0 : Nat) (l0 : List Int) (A1 : Option Addr) (c1 : Nat) (l1 : List Int) (r : Bool) (w : World) (hr0 : Kd.C (Kd.int .i64) w A0 l0.length l0) (hc0 : l0.length ≤ c0) (hr1 : Kd.C (Kd.int .i64) w A1 l1.length l1) (hc1 : l1.length ≤ c1) (h : braidworkref19_Same.f k l0 l1 = some r) :
 Calls Try.prog 19 #[.slice A0 l0.length c0, .slice A1 l1.length c1] w fun e w' => e = .returned (.bool r) ∧ Drawn0 w w' := by
 have HR0 := Aside0.mk hr0
 have HC0 := Aside0.mk hc0
 clear hr0 hc0
 have HR1 := Aside0.mk hr1
 have HC1 := Aside0.mk hc1
 clear hr1 hc1
 have H : (if (l0.length : Int) = (l1.length : Int) then (braidworkref19_Same.l0 k l0 l1 0) else (some false)) = some r := h
 clear h
 by_cases c3 : (l0.length : Int) = (l1.length : Int)
 · rw [if_pos c3] at H
   have c3b0 : ((l0.length : Int) == (l1.length : Int)) = true := beq_iff_eq.mpr c3
   have c3b1 : ((l0.length : Int) != (l1.length : Int)) = false := bne_eq_false_iff_eq.mpr c3
   have c3b2 : (l0.length == l1.length) = true := by first | simpa using c3 | (simp at c3 ⊢; omega)
   clear c3
   have H' := Aside0.mk H
   clear H
   go_enter Try.func19, Try.ntmps19
   go_wp2
   repeat (go_quiet (fail); try go_wp2)
   go_loopg [5] k (fun kq v5 w' => ∃ (x5_1 : Int), v5 = .int .i64 x5_1 ∧ Aside0 (braidworkref19_Same.l0 kq l0 l1 x5_1 = some r) ∧ Aside0 (kq ≤ k) ∧ Drawn0 w w')
   case atStart => exact ⟨(0), (by first | rfl | (simp; done) | (simp [*]; done)), H', ⟨Nat.le_refl _⟩, by repeat (first | exact Drawn0.refl _ | apply Drawn0.step)⟩
   case round =>
    clear H'
    try clear c1
    try clear p2
    try clear c3
    try clear c3b0
    try clear c3b1
    try clear c3b2
    obtain ⟨x5_1, rfl, HA, HK1, ⟨m1, rfl⟩⟩ := hrel
    cases gk with
    | zero => exact absurd HA.out (by simp [braidworkref19_Same.l0])
    | succ k1 =>
     have H := HA.out
     clear HA
     simp only [braidworkref19_Same.l0] at H
     by_cases c4 : x5_1 < (l0.length : Int)
     · rw [if_pos c4] at H
       have c4b0 : decide (x5_1 < (l0.length : Int)) = true := decide_eq_true c4
       clear c4
       by_cases c5 : 0 ≤ x5_1
       · rw [if_pos c5] at H
         have c5b0 : decide (0 ≤ x5_1) = true := decide_eq_true c5
         clear c5
         by_cases c6 : x5_1 < (l1.length : Int)
         · rw [if_pos c6] at H
           have c6b0 : decide (x5_1 < (l1.length : Int)) = true := decide_eq_true c6
           clear c6
           by_cases c7 : (rd l0 x5_1) = (rd l1 x5_1)
           · rw [if_pos c7] at H
             have c7b0 : ((rd l0 x5_1) == (rd l1 x5_1)) = true := beq_iff_eq.mpr c7
             have c7b1 : ((rd l0 x5_1) != (rd l1 x5_1)) = false := bne_eq_false_iff_eq.mpr c7
             clear c7
             have H' := Aside0.mk H
             clear H
             have p390 : 0 ≤ (x5_1 : Int) := of_decide_eq_true (by first | (with_reducible assumption) | assumption)
             have q390 : x5_1 < (l0.length : Int) := of_decide_eq_true (by first | (with_reducible assumption) | assumption)
             obtain ⟨ad390, e390, hx390_0⟩ := Kd.at_int HR0.out x5_1 p390 q390
             cases e390
             replace p390 := eq_true p390
             replace q390 := eq_true q390
             have p391 : 0 ≤ (x5_1 : Int) := of_decide_eq_true (by first | (with_reducible assumption) | assumption)
             have q391 : x5_1 < (l1.length : Int) := of_decide_eq_true (by first | (with_reducible assumption) | assumption)
             obtain ⟨ad391, e391, hx391_0⟩ := Kd.at_int HR1.out x5_1 p391 q391
             cases e391
             replace p391 := eq_true p391
             replace q391 := eq_true q391
             go_wp2
             repeat (go_quiet (fail); try go_wp2)
             go_roundg k1
             case measure => have := HK1.out; omega
             case rel => exact ⟨(wrap64 (x5_1 + 1)), (by first | rfl | (simp; done) | (simp [*]; done)), H', ⟨by have := HK1.out; omega⟩, by repeat (first | exact Drawn0.refl _ | apply Drawn0.step)⟩
           · rw [if_neg c7] at H
             have c7b0 : ((rd l0 x5_1) == (rd l1 x5_1)) = false := beq_eq_false_iff_ne.mpr c7
             have c7b1 : ((rd l0 x5_1) != (rd l1 x5_1)) = true := bne_iff_ne.mpr c7
             obtain rfl := Option.some.inj H
             have p390 : 0 ≤ (x5_1 : Int) := of_decide_eq_true (by first | (with_reducible assumption) | assumption)
             have q390 : x5_1 < (l0.length : Int) := of_decide_eq_true (by first | (with_reducible assumption) | assumption)
             obtain ⟨ad390, e390, hx390_0⟩ := Kd.at_int HR0.out x5_1 p390 q390
             cases e390
             replace p390 := eq_true p390
             replace q390 := eq_true q390
             have p391 : 0 ≤ (x5_1 : Int) := of_decide_eq_true (by first | (with_reducible assumption) | assumption)
             have q391 : x5_1 < (l1.length : Int) := of_decide_eq_true (by first | (with_reducible assumption) | assumption)
             obtain ⟨ad391, e391, hx391_0⟩ := Kd.at_int HR1.out x5_1 p391 q391
             cases e391
             replace p391 := eq_true p391
             replace q391 := eq_true q391
             go_wp2
             repeat (go_quiet (fail); try go_wp2)
             go_ret
             exact ⟨by first | rfl | (simp; done) | (simp [*]; done), by repeat (first | exact Drawn0.refl _ | apply Drawn0.step)⟩
         · rw [if_neg c6] at H
           exact absurd H (by simp)
       · rw [if_neg c5] at H
         exact absurd H (by simp)
     · rw [if_neg c4] at H
       have c4b0 : decide (x5_1 < (l0.length : Int)) = false := decide_eq_false c4
       clear c4
       obtain rfl := Option.some.inj H
       go_wp2
       repeat (go_quiet (fail); try go_wp2)
       go_ret
       exact ⟨by first | rfl | (simp; done) | (simp [*]; done), by repeat (first | exact Drawn0.refl _ | apply Drawn0.step)⟩
 · rw [if_neg c3] at H
   have c3b0 : ((l0.length : Int) == (l1.length : Int)) = false := beq_eq_false_iff_ne.mpr c3
   have c3b1 : ((l0.length : Int) != (l1.length : Int)) = true := bne_iff_ne.mpr c3
   have c3b2 : (l0.length == l1.length) = false := by first | simpa using c3 | (simp at c3 ⊢; omega)
   obtain rfl := Option.some.inj H
   go_enter Try.func19, Try.ntmps19
   go_wp2
   repeat (go_quiet (fail); try go_wp2)
   go_ret
   exact ⟨by first | rfl | (simp; done) | (simp [*]; done), by repeat (first | exact Drawn0.refl _ | apply Drawn0.step)⟩
end Go.Proofs.Ytkkfpmgmicfkfaa.X
/- Printed by a program of this session's own (wip/tools/xprint.py) out of the translation: functions as plain Lean, and their walks. -/
namespace Go.Proofs.Ytkkfpmgmicfkfaa.X
open Go.RowKit Go.Proofs.YtkkfpmgmicfkfaaW.PrintWords Go.Proofs.YtkkfpmgmicfkfaaW.PrintLast Go.Proofs.YtkkfpmgmicfkfaaW.PrintMore
attribute [local go_sem] max2_int min2_int max_two min_two max_three min_three max_four min_four   -- for this text's walks alone
set_option linter.unusedVariables false
set_option linter.unusedSimpArgs false
attribute [local go_sem high] eqA40
/-! ### braidworkref12_SameTopo: function 17 -/
mutual
def braidworkref12_SameTopo.j0 : Nat → Bool → Int → List Bool → List (List (S40)) → Int → List Bool → List (List (S40)) → Option (Bool)
 | 0, _, _, _, _, _, _, _ => none
 | k + 1, x30, x373000, x373001, x373002, x374000, x374001, x374002 => if x30 = true then (some false) else (braidworkref12_SameTopo.l0 k 0 x373000 x373001 x373002 x374000 x374001 x374002)
def braidworkref12_SameTopo.l0 : Nat → Int → Int → List Bool → List (List (S40)) → Int → List Bool → List (List (S40)) → Option (Bool)
 | 0, _, _, _, _, _, _, _ => none
 | k + 1, x5, x373000, x373001, x373002, x374000, x374001, x374002 => if x5 < (x373001.length : Int) then (if 0 ≤ x5 then (if x5 < (x374001.length : Int) then (if ((rdOf false x373001 x5) != (rdOf false x374001 x5)) = true then (some false) else (braidworkref12_SameTopo.l0 k (wrap64 (x5 + 1)) x373000 x373001 x373002 x374000 x374001 x374002)) else (none)) else (none)) else (braidworkref12_SameTopo.l1 k 0 x373000 x373001 x373002 x374000 x374001 x374002)
def braidworkref12_SameTopo.l1 : Nat → Int → Int → List Bool → List (List (S40)) → Int → List Bool → List (List (S40)) → Option (Bool)
 | 0, _, _, _, _, _, _, _ => none
 | k + 1, x6, x373000, x373001, x373002, x374000, x374001, x374002 => if x6 < (x373002.length : Int) then (if 0 ≤ x6 then (if x6 < (x374002.length : Int) then (if ((rd_L5 x373002 x6).length : Int) = ((rd_L5 x374002 x6).length : Int) then (braidworkref12_SameTopo.l2 k x6 0 x373000 x373001 x373002 x374000 x374001 x374002) else (some false)) else (none)) else (none)) else (some true)
def braidworkref12_SameTopo.l2 : Nat → Int → Int → Int → List Bool → List (List (S40)) → Int → List Bool → List (List (S40)) → Option (Bool)
 | 0, _, _, _, _, _, _, _, _ => none
 | k + 1, x6, x7, x373000, x373001, x373002, x374000, x374001, x374002 => if 0 ≤ x6 then (if x6 < (x373002.length : Int) then (if x7 < ((rd_L5 x373002 x6).length : Int) then (if 0 ≤ x7 then (if x6 < (x374002.length : Int) then (if x7 < ((rd_L5 x374002 x6).length : Int) then (if (!(((rd_T40 (rd_L5 x373002 x6) x7).f0) == ((rd_T40 (rd_L5 x374002 x6) x7).f0)) || (!(((rd_T40 (rd_L5 x373002 x6) x7).f1) == ((rd_T40 (rd_L5 x374002 x6) x7).f1)))) = true then (some false) else (braidworkref12_SameTopo.l2 k x6 (wrap64 (x7 + 1)) x373000 x373001 x373002 x374000 x374001 x374002)) else (none)) else (none)) else (none)) else (braidworkref12_SameTopo.l1 k (wrap64 (x6 + 1)) x373000 x373001 x373002 x374000 x374001 x374002)) else (none)) else (none)
end
def braidworkref12_SameTopo.f (k : Nat) (a0_0 : Int) (l0_1 : List Bool) (l0_2 : List (List (S40))) (a1_0 : Int) (l1_1 : List Bool) (l1_2 : List (List (S40))) : Option (Bool) := if a0_0 = a1_0 then (if (l0_1.length : Int) = (l1_1.length : Int) then (braidworkref12_SameTopo.j0 k ((l0_2.length : Int) != (l1_2.length : Int)) a0_0 l0_1 l0_2 a1_0 l1_1 l1_2) else (braidworkref12_SameTopo.j0 k true a0_0 l0_1 l0_2 a1_0 l1_1 l1_2)) else (braidworkref12_SameTopo.j0 k true a0_0 l0_1 l0_2 a1_0 l1_1 l1_2)
theorem braidworkref12_SameTopo.mono_l : ∀ k, (∀ y0 y1 y2 y3 y4 y5 y6, LeO (braidworkref12_SameTopo.j0 k y0 y1 y2 y3 y4 y5 y6) (braidworkref12_SameTopo.j0 (k + 1) y0 y1 y2 y3 y4 y5 y6)) ∧ (∀ y0 y1 y2 y3 y4 y5 y6, LeO (braidworkref12_SameTopo.l0 k y0 y1 y2 y3 y4 y5 y6) (braidworkref12_SameTopo.l0 (k + 1) y0 y1 y2 y3 y4 y5 y6)) ∧ (∀ y0 y1 y2 y3 y4 y5 y6, LeO (braidworkref12_SameTopo.l1 k y0 y1 y2 y3 y4 y5 y6) (braidworkref12_SameTopo.l1 (k + 1) y0 y1 y2 y3 y4 y5 y6)) ∧ (∀ y0 y1 y2 y3 y4 y5 y6 y7, LeO (braidworkref12_SameTopo.l2 k y0 y1 y2 y3 y4 y5 y6 y7) (braidworkref12_SameTopo.l2 (k + 1) y0 y1 y2 y3 y4 y5 y6 y7))
 | 0 => ⟨fun _ _ _ _ _ _ _ r h => by simp [braidworkref12_SameTopo.j0] at h, fun _ _ _ _ _ _ _ r h => by simp [braidworkref12_SameTopo.l0] at h, fun _ _ _ _ _ _ _ r h => by simp [braidworkref12_SameTopo.l1] at h, fun _ _ _ _ _ _ _ _ r h => by simp [braidworkref12_SameTopo.l2] at h⟩
 | k + 1 => by
  obtain ⟨ih0, ih1, ih2, ih3⟩ := braidworkref12_SameTopo.mono_l k
  refine ⟨?_, ?_, ?_, ?_⟩
  · intro y0 y1 y2 y3 y4 y5 y6
    unfold braidworkref12_SameTopo.j0
    repeat' first
    | (with_reducible exact ih0 _ _ _ _ _ _ _)
    | (with_reducible exact ih1 _ _ _ _ _ _ _)
    | (with_reducible exact ih2 _ _ _ _ _ _ _)
    | (with_reducible exact ih3 _ _ _ _ _ _ _ _)
    | (with_reducible exact LeO.refl _)
    | (with_reducible exact LeO.none _)
    | (with_reducible refine LeO.ite ?_ ?_)
    | (with_reducible refine LeO.bind ?_ (fun _ => ?_))
    | exact ih0 _ _ _ _ _ _ _
    | exact ih1 _ _ _ _ _ _ _
    | exact ih2 _ _ _ _ _ _ _
    | exact ih3 _ _ _ _ _ _ _ _
    | exact LeO.none _
    | refine LeO.ite ?_ ?_
    | refine LeO.bind ?_ (fun _ => ?_)
  · intro y0 y1 y2 y3 y4 y5 y6
    unfold braidworkref12_SameTopo.l0
    repeat' first
    | (with_reducible exact ih0 _ _ _ _ _ _ _)
    | (with_reducible exact ih1 _ _ _ _ _ _ _)
    | (with_reducible exact ih2 _ _ _ _ _ _ _)
    | (with_reducible exact ih3 _ _ _ _ _ _ _ _)
    | (with_reducible exact LeO.refl _)
    | (with_reducible exact LeO.none _)
    | (with_reducible refine LeO.ite ?_ ?_)
    | (with_reducible refine LeO.bind ?_ (fun _ => ?_))
    | exact ih0 _ _ _ _ _ _ _
    | exact ih1 _ _ _ _ _ _ _
    | exact ih2 _ _ _ _ _ _ _
    | exact ih3 _ _ _ _ _ _ _ _
    | exact LeO.none _
    | refine LeO.ite ?_ ?_
    | refine LeO.bind ?_ (fun _ => ?_)
  · intro y0 y1 y2 y3 y4 y5 y6
    unfold braidworkref12_SameTopo.l1
    repeat' first
    | (with_reducible exact ih0 _ _ _ _ _ _ _)
    | (with_reducible exact ih1 _ _ _ _ _ _ _)
    | (with_reducible exact ih2 _ _ _ _ _ _ _)
    | (with_reducible exact ih3 _ _ _ _ _ _ _ _)
    | (with_reducible exact LeO.refl _)
    | (with_reducible exact LeO.none _)
    | (with_reducible refine LeO.ite ?_ ?_)
    | (with_reducible refine LeO.bind ?_ (fun _ => ?_))
    | exact ih0 _ _ _ _ _ _ _
    | exact ih1 _ _ _ _ _ _ _
    | exact ih2 _ _ _ _ _ _ _
    | exact ih3 _ _ _ _ _ _ _ _
    | exact LeO.none _
    | refine LeO.ite ?_ ?_
    | refine LeO.bind ?_ (fun _ => ?_)
  · intro y0 y1 y2 y3 y4 y5 y6 y7
    unfold braidworkref12_SameTopo.l2
    repeat' first
    | (with_reducible exact ih0 _ _ _ _ _ _ _)
    | (with_reducible exact ih1 _ _ _ _ _ _ _)
    | (with_reducible exact ih2 _ _ _ _ _ _ _)
    | (with_reducible exact ih3 _ _ _ _ _ _ _ _)
    | (with_reducible exact LeO.refl _)
    | (with_reducible exact LeO.none _)
    | (with_reducible refine LeO.ite ?_ ?_)
    | (with_reducible refine LeO.bind ?_ (fun _ => ?_))
    | exact ih0 _ _ _ _ _ _ _
    | exact ih1 _ _ _ _ _ _ _
    | exact ih2 _ _ _ _ _ _ _
    | exact ih3 _ _ _ _ _ _ _ _
    | exact LeO.none _
    | refine LeO.ite ?_ ?_
    | refine LeO.bind ?_ (fun _ => ?_)
theorem braidworkref12_SameTopo.mono : ∀ a0 a1 a2 a3 a4 a5 k, LeO (braidworkref12_SameTopo.f k a0 a1 a2 a3 a4 a5) (braidworkref12_SameTopo.f (k + 1) a0 a1 a2 a3 a4 a5) := by
 intro a0 a1 a2 a3 a4 a5 k
 obtain ⟨ih0, ih1, ih2, ih3⟩ := braidworkref12_SameTopo.mono_l k
 unfold braidworkref12_SameTopo.f
 repeat' first
  | (with_reducible exact ih0 _ _ _ _ _ _ _)
  | (with_reducible exact ih1 _ _ _ _ _ _ _)
  | (with_reducible exact ih2 _ _ _ _ _ _ _)
  | (with_reducible exact ih3 _ _ _ _ _ _ _ _)
  | (with_reducible exact LeO.refl _)
  | (with_reducible exact LeO.none _)
  | (with_reducible refine LeO.ite ?_ ?_)
  | (with_reducible refine LeO.bind ?_ (fun _ => ?_))
  | exact ih0 _ _ _ _ _ _ _
  | exact ih1 _ _ _ _ _ _ _
  | exact ih2 _ _ _ _ _ _ _
  | exact ih3 _ _ _ _ _ _ _ _
  | exact LeO.none _
  | refine LeO.ite ?_ ?_
  | refine LeO.bind ?_ (fun _ => ?_)
set_option maxHeartbeats 8000000 in
set_option maxRecDepth 100000 in
theorem braidworkref12_SameTopo.calls (k : Nat) (a0_0 : Int) (A0_1 : Option Addr) (c0_1 : Nat) (l0_1 : List Bool) (A0_2 : Option Addr) (c0_2 : Nat) (l0_2 : List (List (S40))) (a1_0 : Int) (A1_1 : Option Addr) (c1_1 : Nat) (l1_1 : List Bool) (A1_2 : Option Addr) (c1_2 : Nat) (l1_2 : List (List (S40))) (r : Bool) (w : World) (hr0_1 : Kd.C Kd.bool w A0_1 l0_1.length l0_1) (hc0_1 : l0_1.length ≤ c0_1) (hr0_2 : Kd.C (Kd.slice 40 k40) w A0_2 l0_2.length l0_2) (hc0_2 : l0_2.length ≤ c0_2) (hr1_1 : Kd.C Kd.bool w A1_1 l1_1.length l1_1) (hc1_1 : l1_1.length ≤ c1_1) (hr1_2 : Kd.C (Kd.slice 40 k40) w A1_2 l1_2.length l1_2) (hc1_2 : l1_2.length ≤ c1_2) (h : braidworkref12_SameTopo.f k a0_0 l0_1 l0_2 a1_0 l1_1 l1_2 = some r) :
 Calls Try.prog 17 #[.agg #[.int .u64 a0_0, .slice A0_1 l0_1.length c0_1, .slice A0_2 l0_2.length c0_2], .agg #[.int .u64 a1_0, .slice A1_1 l1_1.length c1_1, .slice A1_2 l1_2.length c1_2]] w fun e w' => e = .returned (.bool r) ∧ Below w.heap.size w w' := by
 have hu29 := Try.underlying29
 have hu40 := Try.underlying40
 have HR0_1 := Aside0.mk hr0_1
 have HC0_1 := Aside0.mk hc0_1
 clear hr0_1 hc0_1
 have HR0_2 := Aside0.mk hr0_2
 have HC0_2 := Aside0.mk hc0_2
 clear hr0_2 hc0_2
 have HR1_1 := Aside0.mk hr1_1
 have HC1_1 := Aside0.mk hc1_1
 clear hr1_1 hc1_1
 have HR1_2 := Aside0.mk hr1_2
 have HC1_2 := Aside0.mk hc1_2
 clear hr1_2 hc1_2
 have HB := Aside0.mk (Below.refl w.heap.size w)
 have H : (if a0_0 = a1_0 then (if (l0_1.length : Int) = (l1_1.length : Int) then (braidworkref12_SameTopo.j0 k ((l0_2.length : Int) != (l1_2.length : Int)) a0_0 l0_1 l0_2 a1_0 l1_1 l1_2) else (braidworkref12_SameTopo.j0 k true a0_0 l0_1 l0_2 a1_0 l1_1 l1_2)) else (braidworkref12_SameTopo.j0 k true a0_0 l0_1 l0_2 a1_0 l1_1 l1_2)) = some r := h
 clear h
 have HC3 := Aside0.mk H
 clear H
 go_enter Try.func17, Try.ntmps17
 go_upto_region 1 with (first | ((with_reducible refine gate_dst (N := 2) rfl ?_); (try (refine gate_guard (by rfl) ?_; dsimp only)); refine box_event ?hg (N := 2) ?hd (cs := #[.int .u64 a0_0, .slice A0_1 l0_1.length c0_1, .slice A0_2 l0_2.length c0_2]) (t := 29) ?hr ?_; (case hd => rfl); (case hg => rfl); (case hr => first | (go_simp; done) | (go_simp; rfl)); intro gb372 hg w4 hbox hb; have n0_ := Aside0.mk (below_step (by repeat (first | (with_reducible first | exact HB.out | apply below_alloc | apply pw_below_drewN | apply below_drew1) | exact HB.out)) hb); have n1_ := Aside0.mk (hbox); have n2_ := Aside0.mk ((by rw [hg]; exact (below_size (by repeat (first | (with_reducible first | exact HB.out | apply below_alloc | apply pw_below_drewN | apply below_drew1) | exact HB.out))) : w.heap.size ≤ gb372)); have n3_ := Aside0.mk ((by rw [hg]; exact (below_size (by repeat (first | (with_reducible first | exact HB.out | apply below_alloc | apply pw_below_drewN | apply below_drew1) | exact HB.out))) : w.heap.size ≤ gb372)); clear HB; have HB := n0_; have BK372 := n1_; have GW372 := n2_; have GE372 := n3_; clear n0_ n1_ n2_ n3_; clear hb hbox hg) | ((with_reducible refine gate_dst (N := 3) rfl ?_); (try (refine gate_guard (by rfl) ?_; dsimp only)); refine box_event ?hg (N := 3) ?hd (cs := #[.int .u64 a1_0, .slice A1_1 l1_1.length c1_1, .slice A1_2 l1_2.length c1_2]) (t := 29) ?hr ?_; (case hd => rfl); (case hg => rfl); (case hr => first | (go_simp; done) | (go_simp; rfl)); intro gb373 hg w5 hbox hb; have n0_ := Aside0.mk (blk_below (g := gb372) (o := .cells #[.int .u64 a0_0, .slice A0_1 l0_1.length c0_1, .slice A0_2 l0_2.length c0_2] 29 (0, 0)) (by (with_reducible repeat (first | refine blk_drewN ?_ _ | refine blk_drew ?_ | refine blk_alloc ?_ _)); exact BK372.out) hb); have n1_ := Aside0.mk (below_step (by repeat (first | (with_reducible first | exact HB.out | apply below_alloc | apply pw_below_drewN | apply below_drew1 | refine below_set ?_ GE372.out) | exact HB.out)) hb); have n2_ := Aside0.mk (hbox); have n3_ := Aside0.mk ((by rw [hg]; exact (below_size (by repeat (first | (with_reducible first | exact HB.out | apply below_alloc | apply pw_below_drewN | apply below_drew1 | refine below_set ?_ GE372.out) | exact HB.out))) : w.heap.size ≤ gb373)); have n4_ := Aside0.mk ((by rw [hg]; exact (below_size (by repeat (first | (with_reducible first | exact HB.out | apply below_alloc | apply pw_below_drewN | apply below_drew1 | refine below_set ?_ GE372.out) | exact HB.out))) : w.heap.size ≤ gb373)); have n5_ := Aside0.mk ((by rw [hg]; exact Nat.ne_of_lt (blk_lt (g := gb372) (o := .cells #[.int .u64 a0_0, .slice A0_1 l0_1.length c0_1, .slice A0_2 l0_2.length c0_2] 29 (0, 0)) (by (with_reducible repeat (first | refine blk_drewN ?_ _ | refine blk_drew ?_ | refine blk_alloc ?_ _)); exact BK372.out)) : gb372 ≠ gb373)); have n6_ := Aside0.mk ((by rw [hg]; exact Nat.ne_of_gt (blk_lt (g := gb372) (o := .cells #[.int .u64 a0_0, .slice A0_1 l0_1.length c0_1, .slice A0_2 l0_2.length c0_2] 29 (0, 0)) (by (with_reducible repeat (first | refine blk_drewN ?_ _ | refine blk_drew ?_ | refine blk_alloc ?_ _)); exact BK372.out)) : gb373 ≠ gb372)); clear BK372; clear HB; have BK372 := n0_; have HB := n1_; have BK373 := n2_; have GW373 := n3_; have GE373 := n4_; have NB372_373 := n5_; have NB373_372 := n6_; clear n0_ n1_ n2_ n3_ n4_ n5_ n6_; clear hb hbox hg))
 repeat (go_quiet (first | ((with_reducible refine gate_dst (N := 2) rfl ?_); (try (refine gate_guard (by rfl) ?_; dsimp only)); refine box_event ?hg (N := 2) ?hd (cs := #[.int .u64 a0_0, .slice A0_1 l0_1.length c0_1, .slice A0_2 l0_2.length c0_2]) (t := 29) ?hr ?_; (case hd => rfl); (case hg => rfl); (case hr => first | (go_simp; done) | (go_simp; rfl)); intro gb372 hg w4 hbox hb; have n0_ := Aside0.mk (below_step (by repeat (first | (with_reducible first | exact HB.out | apply below_alloc | apply pw_below_drewN | apply below_drew1) | exact HB.out)) hb); have n1_ := Aside0.mk (hbox); have n2_ := Aside0.mk ((by rw [hg]; exact (below_size (by repeat (first | (with_reducible first | exact HB.out | apply below_alloc | apply pw_below_drewN | apply below_drew1) | exact HB.out))) : w.heap.size ≤ gb372)); have n3_ := Aside0.mk ((by rw [hg]; exact (below_size (by repeat (first | (with_reducible first | exact HB.out | apply below_alloc | apply pw_below_drewN | apply below_drew1) | exact HB.out))) : w.heap.size ≤ gb372)); clear HB; have HB := n0_; have BK372 := n1_; have GW372 := n2_; have GE372 := n3_; clear n0_ n1_ n2_ n3_; clear hb hbox hg) | ((with_reducible refine gate_dst (N := 3) rfl ?_); (try (refine gate_guard (by rfl) ?_; dsimp only)); refine box_event ?hg (N := 3) ?hd (cs := #[.int .u64 a1_0, .slice A1_1 l1_1.length c1_1, .slice A1_2 l1_2.length c1_2]) (t := 29) ?hr ?_; (case hd => rfl); (case hg => rfl); (case hr => first | (go_simp; done) | (go_simp; rfl)); intro gb373 hg w5 hbox hb; have n0_ := Aside0.mk (blk_below (g := gb372) (o := .cells #[.int .u64 a0_0, .slice A0_1 l0_1.length c0_1, .slice A0_2 l0_2.length c0_2] 29 (0, 0)) (by (with_reducible repeat (first | refine blk_drewN ?_ _ | refine blk_drew ?_ | refine blk_alloc ?_ _)); exact BK372.out) hb); have n1_ := Aside0.mk (below_step (by repeat (first | (with_reducible first | exact HB.out | apply below_alloc | apply pw_below_drewN | apply below_drew1 | refine below_set ?_ GE372.out) | exact HB.out)) hb); have n2_ := Aside0.mk (hbox); have n3_ := Aside0.mk ((by rw [hg]; exact (below_size (by repeat (first | (with_reducible first | exact HB.out | apply below_alloc | apply pw_below_drewN | apply below_drew1 | refine below_set ?_ GE372.out) | exact HB.out))) : w.heap.size ≤ gb373)); have n4_ := Aside0.mk ((by rw [hg]; exact (below_size (by repeat (first | (with_reducible first | exact HB.out | apply below_alloc | apply pw_below_drewN | apply below_drew1 | refine below_set ?_ GE372.out) | exact HB.out))) : w.heap.size ≤ gb373)); have n5_ := Aside0.mk ((by rw [hg]; exact Nat.ne_of_lt (blk_lt (g := gb372) (o := .cells #[.int .u64 a0_0, .slice A0_1 l0_1.length c0_1, .slice A0_2 l0_2.length c0_2] 29 (0, 0)) (by (with_reducible repeat (first | refine blk_drewN ?_ _ | refine blk_drew ?_ | refine blk_alloc ?_ _)); exact BK372.out)) : gb372 ≠ gb373)); have n6_ := Aside0.mk ((by rw [hg]; exact Nat.ne_of_gt (blk_lt (g := gb372) (o := .cells #[.int .u64 a0_0, .slice A0_1 l0_1.length c0_1, .slice A0_2 l0_2.length c0_2] 29 (0, 0)) (by (with_reducible repeat (first | refine blk_drewN ?_ _ | refine blk_drew ?_ | refine blk_alloc ?_ _)); exact BK372.out)) : gb373 ≠ gb372)); clear BK372; clear HB; have BK372 := n0_; have HB := n1_; have BK373 := n2_; have GW373 := n3_; have GE373 := n4_; have NB372_373 := n5_; have NB373_372 := n6_; clear n0_ n1_ n2_ n3_ n4_ n5_ n6_; clear hb hbox hg)); go_upto_region 1 with (first | ((with_reducible refine gate_dst (N := 2) rfl ?_); (try (refine gate_guard (by rfl) ?_; dsimp only)); refine box_event ?hg (N := 2) ?hd (cs := #[.int .u64 a0_0, .slice A0_1 l0_1.length c0_1, .slice A0_2 l0_2.length c0_2]) (t := 29) ?hr ?_; (case hd => rfl); (case hg => rfl); (case hr => first | (go_simp; done) | (go_simp; rfl)); intro gb372 hg w4 hbox hb; have n0_ := Aside0.mk (below_step (by repeat (first | (with_reducible first | exact HB.out | apply below_alloc | apply pw_below_drewN | apply below_drew1) | exact HB.out)) hb); have n1_ := Aside0.mk (hbox); have n2_ := Aside0.mk ((by rw [hg]; exact (below_size (by repeat (first | (with_reducible first | exact HB.out | apply below_alloc | apply pw_below_drewN | apply below_drew1) | exact HB.out))) : w.heap.size ≤ gb372)); have n3_ := Aside0.mk ((by rw [hg]; exact (below_size (by repeat (first | (with_reducible first | exact HB.out | apply below_alloc | apply pw_below_drewN | apply below_drew1) | exact HB.out))) : w.heap.size ≤ gb372)); clear HB; have HB := n0_; have BK372 := n1_; have GW372 := n2_; have GE372 := n3_; clear n0_ n1_ n2_ n3_; clear hb hbox hg) | ((with_reducible refine gate_dst (N := 3) rfl ?_); (try (refine gate_guard (by rfl) ?_; dsimp only)); refine box_event ?hg (N := 3) ?hd (cs := #[.int .u64 a1_0, .slice A1_1 l1_1.length c1_1, .slice A1_2 l1_2.length c1_2]) (t := 29) ?hr ?_; (case hd => rfl); (case hg => rfl); (case hr => first | (go_simp; done) | (go_simp; rfl)); intro gb373 hg w5 hbox hb; have n0_ := Aside0.mk (blk_below (g := gb372) (o := .cells #[.int .u64 a0_0, .slice A0_1 l0_1.length c0_1, .slice A0_2 l0_2.length c0_2] 29 (0, 0)) (by (with_reducible repeat (first | refine blk_drewN ?_ _ | refine blk_drew ?_ | refine blk_alloc ?_ _)); exact BK372.out) hb); have n1_ := Aside0.mk (below_step (by repeat (first | (with_reducible first | exact HB.out | apply below_alloc | apply pw_below_drewN | apply below_drew1 | refine below_set ?_ GE372.out) | exact HB.out)) hb); have n2_ := Aside0.mk (hbox); have n3_ := Aside0.mk ((by rw [hg]; exact (below_size (by repeat (first | (with_reducible first | exact HB.out | apply below_alloc | apply pw_below_drewN | apply below_drew1 | refine below_set ?_ GE372.out) | exact HB.out))) : w.heap.size ≤ gb373)); have n4_ := Aside0.mk ((by rw [hg]; exact (below_size (by repeat (first | (with_reducible first | exact HB.out | apply below_alloc | apply pw_below_drewN | apply below_drew1 | refine below_set ?_ GE372.out) | exact HB.out))) : w.heap.size ≤ gb373)); have n5_ := Aside0.mk ((by rw [hg]; exact Nat.ne_of_lt (blk_lt (g := gb372) (o := .cells #[.int .u64 a0_0, .slice A0_1 l0_1.length c0_1, .slice A0_2 l0_2.length c0_2] 29 (0, 0)) (by (with_reducible repeat (first | refine blk_drewN ?_ _ | refine blk_drew ?_ | refine blk_alloc ?_ _)); exact BK372.out)) : gb372 ≠ gb373)); have n6_ := Aside0.mk ((by rw [hg]; exact Nat.ne_of_gt (blk_lt (g := gb372) (o := .cells #[.int .u64 a0_0, .slice A0_1 l0_1.length c0_1, .slice A0_2 l0_2.length c0_2] 29 (0, 0)) (by (with_reducible repeat (first | refine blk_drewN ?_ _ | refine blk_drew ?_ | refine blk_alloc ?_ _)); exact BK372.out)) : gb373 ≠ gb372)); clear BK372; clear HB; have BK372 := n0_; have HB := n1_; have BK373 := n2_; have GW373 := n3_; have GE373 := n4_; have NB372_373 := n5_; have NB373_372 := n6_; clear n0_ n1_ n2_ n3_ n4_ n5_ n6_; clear hb hbox hg)))
 (try simp only [Act.put, List.setIfInBounds_toArray, List.set_cons_zero, List.set_cons_succ])
 go_cut [30] (fun v30 wc => ∃ (kq : Nat) (x30_2 : Bool), v30 = .bool x30_2 ∧ Aside0 (braidworkref12_SameTopo.j0 kq x30_2 a0_0 l0_1 l0_2 a1_0 l1_1 l1_2 = some r) ∧ Aside0 (kq ≤ k) ∧ Aside0 (wc.heap[gb372]? = some (.cells #[.int .u64 a0_0, (.slice A0_1 l0_1.length c0_1), (.slice A0_2 l0_2.length c0_2)] 29 (0, 0))) ∧ Aside0 (wc.heap[gb373]? = some (.cells #[.int .u64 a1_0, (.slice A1_1 l1_1.length c1_1), (.slice A1_2 l1_2.length c1_2)] 29 (0, 0))) ∧ Aside0 (Below w.heap.size w wc))
 case first =>
  have H := HC3.out
  clear HC3
  by_cases c6 : a0_0 = a1_0
  · rw [if_pos c6] at H
    have c6b0 : (a0_0 == a1_0) = true := beq_iff_eq.mpr c6
    have c6b1 : (a0_0 != a1_0) = false := bne_eq_false_iff_eq.mpr c6
    clear c6
    (first | rw [c6b0] | (simp only [i64_w, i32_w]; rw [c6b0]) | skip)
    by_cases c7 : (l0_1.length : Int) = (l1_1.length : Int)
    · rw [if_pos c7] at H
      have c7b0 : ((l0_1.length : Int) == (l1_1.length : Int)) = true := beq_iff_eq.mpr c7
      have c7b1 : ((l0_1.length : Int) != (l1_1.length : Int)) = false := bne_eq_false_iff_eq.mpr c7
      have c7b2 : (l0_1.length == l1_1.length) = true := by first | simpa using c7 | (simp at c7 ⊢; omega)
      clear c7
      have H' := Aside0.mk H
      clear H
      have hnb8 := NB372_373.out
      have hnc8 := NB373_372.out
      have hcz9_0 : w5.cell? ⟨gb372, 0, none⟩ = some (.int .u64 a0_0) := (blk_cell BK372.out 0).trans rfl
      have hcz9_1 : w5.cell? ⟨gb372, 1, none⟩ = some (.slice A0_1 l0_1.length c0_1) := (blk_cell BK372.out 1).trans rfl
      have hcz9_2 : w5.cell? ⟨gb372, 2, none⟩ = some (.slice A0_2 l0_2.length c0_2) := (blk_cell BK372.out 2).trans rfl
      have hfz9_0 := blk_frozen BK372.out 0
      have hfz9_1 := blk_frozen BK372.out 1
      have hfz9_2 := blk_frozen BK372.out 2
      have hcz10_0 : w5.cell? ⟨gb373, 0, none⟩ = some (.int .u64 a1_0) := (blk_cell BK373.out 0).trans rfl
      have hcz10_1 : w5.cell? ⟨gb373, 1, none⟩ = some (.slice A1_1 l1_1.length c1_1) := (blk_cell BK373.out 1).trans rfl
      have hcz10_2 : w5.cell? ⟨gb373, 2, none⟩ = some (.slice A1_2 l1_2.length c1_2) := (blk_cell BK373.out 2).trans rfl
      have hfz10_0 := blk_frozen BK373.out 0
      have hfz10_1 := blk_frozen BK373.out 1
      have hfz10_2 := blk_frozen BK373.out 2
      go_wp2
      repeat (go_quiet (fail); try go_wp2)
      go_meet
      case rel => exact ⟨_, (((l0_2.length : Int) != (l1_2.length : Int))), (by first | rfl | (simp; done) | (simp [*]; done)), H', ⟨by first | omega | exact Nat.le_refl _⟩, ⟨by (with_reducible repeat (first | refine blk_drewN ?_ _ | refine blk_drew ?_ | refine blk_alloc ?_ _)); exact BK372.out⟩, ⟨by (with_reducible repeat (first | refine blk_drewN ?_ _ | refine blk_drew ?_ | refine blk_alloc ?_ _)); exact BK373.out⟩, ⟨by repeat (first | (with_reducible first | exact HB.out | apply below_alloc | apply pw_below_drewN | apply below_drew1 | refine below_set ?_ GE372.out | refine below_set ?_ GE373.out) | exact HB.out)⟩⟩
    · rw [if_neg c7] at H
      have c7b0 : ((l0_1.length : Int) == (l1_1.length : Int)) = false := beq_eq_false_iff_ne.mpr c7
      have c7b1 : ((l0_1.length : Int) != (l1_1.length : Int)) = true := bne_iff_ne.mpr c7
      have c7b2 : (l0_1.length == l1_1.length) = false := by first | simpa using c7 | (simp at c7 ⊢; omega)
      have H' := Aside0.mk H
      clear H
      have hnb11 := NB372_373.out
      have hnc11 := NB373_372.out
      have hcz12_0 : w5.cell? ⟨gb372, 0, none⟩ = some (.int .u64 a0_0) := (blk_cell BK372.out 0).trans rfl
      have hcz12_1 : w5.cell? ⟨gb372, 1, none⟩ = some (.slice A0_1 l0_1.length c0_1) := (blk_cell BK372.out 1).trans rfl
      have hcz12_2 : w5.cell? ⟨gb372, 2, none⟩ = some (.slice A0_2 l0_2.length c0_2) := (blk_cell BK372.out 2).trans rfl
      have hfz12_0 := blk_frozen BK372.out 0
      have hfz12_1 := blk_frozen BK372.out 1
      have hfz12_2 := blk_frozen BK372.out 2
      have hcz13_0 : w5.cell? ⟨gb373, 0, none⟩ = some (.int .u64 a1_0) := (blk_cell BK373.out 0).trans rfl
      have hcz13_1 : w5.cell? ⟨gb373, 1, none⟩ = some (.slice A1_1 l1_1.length c1_1) := (blk_cell BK373.out 1).trans rfl
      have hcz13_2 : w5.cell? ⟨gb373, 2, none⟩ = some (.slice A1_2 l1_2.length c1_2) := (blk_cell BK373.out 2).trans rfl
      have hfz13_0 := blk_frozen BK373.out 0
      have hfz13_1 := blk_frozen BK373.out 1
      have hfz13_2 := blk_frozen BK373.out 2
      go_wp2
      repeat (go_quiet (fail); try go_wp2)
      go_meet
      case rel => exact ⟨_, (true), (by first | rfl | (simp; done) | (simp [*]; done)), H', ⟨by first | omega | exact Nat.le_refl _⟩, ⟨by (with_reducible repeat (first | refine blk_drewN ?_ _ | refine blk_drew ?_ | refine blk_alloc ?_ _)); exact BK372.out⟩, ⟨by (with_reducible repeat (first | refine blk_drewN ?_ _ | refine blk_drew ?_ | refine blk_alloc ?_ _)); exact BK373.out⟩, ⟨by repeat (first | (with_reducible first | exact HB.out | apply below_alloc | apply pw_below_drewN | apply below_drew1 | refine below_set ?_ GE372.out | refine below_set ?_ GE373.out) | exact HB.out)⟩⟩
  · rw [if_neg c6] at H
    have c6b0 : (a0_0 == a1_0) = false := beq_eq_false_iff_ne.mpr c6
    have c6b1 : (a0_0 != a1_0) = true := bne_iff_ne.mpr c6
    (first | rw [c6b0] | (simp only [i64_w, i32_w]; rw [c6b0]) | skip)
    have H' := Aside0.mk H
    clear H
    have hnb14 := NB372_373.out
    have hnc14 := NB373_372.out
    have hcz15_0 : w5.cell? ⟨gb372, 0, none⟩ = some (.int .u64 a0_0) := (blk_cell BK372.out 0).trans rfl
    have hcz15_1 : w5.cell? ⟨gb372, 1, none⟩ = some (.slice A0_1 l0_1.length c0_1) := (blk_cell BK372.out 1).trans rfl
    have hcz15_2 : w5.cell? ⟨gb372, 2, none⟩ = some (.slice A0_2 l0_2.length c0_2) := (blk_cell BK372.out 2).trans rfl
    have hfz15_0 := blk_frozen BK372.out 0
    have hfz15_1 := blk_frozen BK372.out 1
    have hfz15_2 := blk_frozen BK372.out 2
    have hcz16_0 : w5.cell? ⟨gb373, 0, none⟩ = some (.int .u64 a1_0) := (blk_cell BK373.out 0).trans rfl
    have hcz16_1 : w5.cell? ⟨gb373, 1, none⟩ = some (.slice A1_1 l1_1.length c1_1) := (blk_cell BK373.out 1).trans rfl
    have hcz16_2 : w5.cell? ⟨gb373, 2, none⟩ = some (.slice A1_2 l1_2.length c1_2) := (blk_cell BK373.out 2).trans rfl
    have hfz16_0 := blk_frozen BK373.out 0
    have hfz16_1 := blk_frozen BK373.out 1
    have hfz16_2 := blk_frozen BK373.out 2
    go_wp2
    repeat (go_quiet (fail); try go_wp2)
    go_meet
    case rel => exact ⟨_, (true), (by first | rfl | (simp; done) | (simp [*]; done)), H', ⟨by first | omega | exact Nat.le_refl _⟩, ⟨by (with_reducible repeat (first | refine blk_drewN ?_ _ | refine blk_drew ?_ | refine blk_alloc ?_ _)); exact BK372.out⟩, ⟨by (with_reducible repeat (first | refine blk_drewN ?_ _ | refine blk_drew ?_ | refine blk_alloc ?_ _)); exact BK373.out⟩, ⟨by repeat (first | (with_reducible first | exact HB.out | apply below_alloc | apply pw_below_drewN | apply below_drew1 | refine below_set ?_ GE372.out | refine below_set ?_ GE373.out) | exact HB.out)⟩⟩
 case rest =>
  clear HC3
  try clear c1
  try clear p2
  try clear c6
  try clear c6b0
  try clear c6b1
  try clear c7
  try clear c7b0
  try clear c7b1
  try clear c7b2
  try clear c8
  try clear c11
  try clear c14
  try clear hcz10_0
  try clear hcz10_1
  try clear hcz10_2
  try clear hcz12_0
  try clear hcz12_1
  try clear hcz12_2
  try clear hcz13_0
  try clear hcz13_1
  try clear hcz13_2
  try clear hcz15_0
  try clear hcz15_1
  try clear hcz15_2
  try clear hcz16_0
  try clear hcz16_1
  try clear hcz16_2
  try clear hcz9_0
  try clear hcz9_1
  try clear hcz9_2
  try clear hfz10_0
  try clear hfz10_1
  try clear hfz10_2
  try clear hfz12_0
  try clear hfz12_1
  try clear hfz12_2
  try clear hfz13_0
  try clear hfz13_1
  try clear hfz13_2
  try clear hfz15_0
  try clear hfz15_1
  try clear hfz15_2
  try clear hfz16_0
  try clear hfz16_1
  try clear hfz16_2
  try clear hfz9_0
  try clear hfz9_1
  try clear hfz9_2
  obtain ⟨kq, x30_2, rfl, HA, HJ2, BK372, BK373, HB⟩ := hcut
  cases kq with
  | zero => exact absurd HA.out (by simp [braidworkref12_SameTopo.j0])
  | succ kj2 =>
   have H := HA.out
   clear HA
   simp only [braidworkref12_SameTopo.j0] at H
   by_cases c17 : x30_2 = true
   · subst c17
     have H1 : (some false) = some r := by rw [if_pos rfl] at H; exact H
     clear H
     have H := H1
     clear H1
     obtain rfl := Option.some.inj H
     go_wp2
     repeat (go_quiet (fail); try go_wp2)
     go_ret
     exact ⟨by first | rfl | (simp [errW_none, errW_some] <;> rfl) | (simp [*, errW_none, errW_some] <;> rfl), by repeat (first | (with_reducible first | exact HB.out | apply below_alloc | apply pw_below_drewN | apply below_drew1 | refine below_set ?_ GE372.out | refine below_set ?_ GE373.out) | exact HB.out)⟩
   · replace c17 := Bool.eq_false_iff.mpr c17
     subst c17
     have H1 : (braidworkref12_SameTopo.l0 kj2 0 a0_0 l0_1 l0_2 a1_0 l1_1 l1_2) = some r := by rw [if_neg (show ¬ (false = true) by decide)] at H; exact H
     clear H
     have H := H1
     clear H1
     have H' := Aside0.mk H
     clear H
     go_wp2
     repeat (go_quiet (fail); try go_wp2)
     go_loopg [5] kj2 (fun kq v5 w' => ∃ (x5_2 : Int), v5 = .int .i64 x5_2 ∧ Aside0 (braidworkref12_SameTopo.l0 kq x5_2 a0_0 l0_1 l0_2 a1_0 l1_1 l1_2 = some r) ∧ Aside0 (kq ≤ kj2) ∧ Aside0 (w'.heap[gb372]? = some (.cells #[.int .u64 a0_0, (.slice A0_1 l0_1.length c0_1), (.slice A0_2 l0_2.length c0_2)] 29 (0, 0))) ∧ Aside0 (w'.heap[gb373]? = some (.cells #[.int .u64 a1_0, (.slice A1_1 l1_1.length c1_1), (.slice A1_2 l1_2.length c1_2)] 29 (0, 0))) ∧ Aside0 (Below w.heap.size w w'))
     case atStart => exact ⟨(0), (by first | rfl | (simp; done) | (simp [*]; done)), H', ⟨Nat.le_refl _⟩, ⟨by (with_reducible repeat (first | refine blk_drewN ?_ _ | refine blk_drew ?_ | refine blk_alloc ?_ _)); exact BK372.out⟩, ⟨by (with_reducible repeat (first | refine blk_drewN ?_ _ | refine blk_drew ?_ | refine blk_alloc ?_ _)); exact BK373.out⟩, ⟨by repeat (first | (with_reducible first | exact HB.out | apply below_alloc | apply pw_below_drewN | apply below_drew1 | refine below_set ?_ GE372.out | refine below_set ?_ GE373.out) | exact HB.out)⟩⟩
     case round =>
      clear H'
      try clear c1
      try clear p2
      try clear c6
      try clear c6b0
      try clear c6b1
      try clear c7
      try clear c7b0
      try clear c7b1
      try clear c7b2
      try clear c8
      try clear c11
      try clear c14
      try clear c17
      try clear hcz10_0
      try clear hcz10_1
      try clear hcz10_2
      try clear hcz12_0
      try clear hcz12_1
      try clear hcz12_2
      try clear hcz13_0
      try clear hcz13_1
      try clear hcz13_2
      try clear hcz15_0
      try clear hcz15_1
      try clear hcz15_2
      try clear hcz16_0
      try clear hcz16_1
      try clear hcz16_2
      try clear hcz9_0
      try clear hcz9_1
      try clear hcz9_2
      try clear hfz10_0
      try clear hfz10_1
      try clear hfz10_2
      try clear hfz12_0
      try clear hfz12_1
      try clear hfz12_2
      try clear hfz13_0
      try clear hfz13_1
      try clear hfz13_2
      try clear hfz15_0
      try clear hfz15_1
      try clear hfz15_2
      try clear hfz16_0
      try clear hfz16_1
      try clear hfz16_2
      try clear hfz9_0
      try clear hfz9_1
      try clear hfz9_2
      try clear p2
      obtain ⟨x5_2, rfl, HA, HK2, BK372, BK373, HB⟩ := hrel
      cases gk with
      | zero => exact absurd HA.out (by simp [braidworkref12_SameTopo.l0])
      | succ k2 =>
       have H := HA.out
       clear HA
       simp only [braidworkref12_SameTopo.l0] at H
       by_cases c18 : x5_2 < (l0_1.length : Int)
       · rw [if_pos c18] at H
         have c18b0 : decide (x5_2 < (l0_1.length : Int)) = true := decide_eq_true c18
         clear c18
         by_cases c19 : 0 ≤ x5_2
         · rw [if_pos c19] at H
           have c19b0 : decide (0 ≤ x5_2) = true := decide_eq_true c19
           clear c19
           by_cases c20 : x5_2 < (l1_1.length : Int)
           · rw [if_pos c20] at H
             have c20b0 : decide (x5_2 < (l1_1.length : Int)) = true := decide_eq_true c20
             clear c20
             by_cases c21 : ((rdOf false l0_1 x5_2) != (rdOf false l1_1 x5_2)) = true
             · rw [if_pos c21] at H
               have c21b0 : ((rdOf false l0_1 x5_2) != (rdOf false l1_1 x5_2)) = true := c21
               (try (have c21b1 : decide ((rdOf false l0_1 x5_2) = (rdOf false l1_1 x5_2)) = false := by simpa using c21))
               (try (have c21b2 : ((rdOf false l0_1 x5_2) == (rdOf false l1_1 x5_2)) = false := by simpa using c21))
               (try (have c21b3 : ¬ ((rdOf false l0_1 x5_2) = (rdOf false l1_1 x5_2)) := by simpa using c21))
               clear c21
               obtain rfl := Option.some.inj H
               have hnb22 := NB372_373.out
               have hnc22 := NB373_372.out
               have hcz23_0 : wr.cell? ⟨gb372, 0, none⟩ = some (.int .u64 a0_0) := (blk_cell BK372.out 0).trans rfl
               have hcz23_1 : wr.cell? ⟨gb372, 1, none⟩ = some (.slice A0_1 l0_1.length c0_1) := (blk_cell BK372.out 1).trans rfl
               have hcz23_2 : wr.cell? ⟨gb372, 2, none⟩ = some (.slice A0_2 l0_2.length c0_2) := (blk_cell BK372.out 2).trans rfl
               have hfz23_0 := blk_frozen BK372.out 0
               have hfz23_1 := blk_frozen BK372.out 1
               have hfz23_2 := blk_frozen BK372.out 2
               have p374 : 0 ≤ (x5_2 : Int) := of_decide_eq_true (by first | (with_reducible assumption) | assumption)
               have q374 : x5_2 < (l0_1.length : Int) := of_decide_eq_true (by first | (with_reducible assumption) | assumption)
               obtain ⟨ad374, e374, hx374_0⟩ := Kd.at_bool HR0_1.out x5_2 p374 q374
               cases e374
               replace hx374_0 := (HB.out.cell (World.block_lt_of_cell? w _ hx374_0)).trans hx374_0
               replace p374 := eq_true p374
               replace q374 := eq_true q374
               have hcz24_0 : wr.cell? ⟨gb373, 0, none⟩ = some (.int .u64 a1_0) := (blk_cell BK373.out 0).trans rfl
               have hcz24_1 : wr.cell? ⟨gb373, 1, none⟩ = some (.slice A1_1 l1_1.length c1_1) := (blk_cell BK373.out 1).trans rfl
               have hcz24_2 : wr.cell? ⟨gb373, 2, none⟩ = some (.slice A1_2 l1_2.length c1_2) := (blk_cell BK373.out 2).trans rfl
               have hfz24_0 := blk_frozen BK373.out 0
               have hfz24_1 := blk_frozen BK373.out 1
               have hfz24_2 := blk_frozen BK373.out 2
               have p375 : 0 ≤ (x5_2 : Int) := of_decide_eq_true (by first | (with_reducible assumption) | assumption)
               have q375 : x5_2 < (l1_1.length : Int) := of_decide_eq_true (by first | (with_reducible assumption) | assumption)
               obtain ⟨ad375, e375, hx375_0⟩ := Kd.at_bool HR1_1.out x5_2 p375 q375
               cases e375
               replace hx375_0 := (HB.out.cell (World.block_lt_of_cell? w _ hx375_0)).trans hx375_0
               replace p375 := eq_true p375
               replace q375 := eq_true q375
               go_wp2
               repeat (go_quiet (fail); try go_wp2)
               go_ret
               exact ⟨by first | rfl | (simp [errW_none, errW_some] <;> rfl) | (simp [*, errW_none, errW_some] <;> rfl), by repeat (first | (with_reducible first | exact HB.out | apply below_alloc | apply pw_below_drewN | apply below_drew1 | refine below_set ?_ GE372.out | refine below_set ?_ GE373.out) | exact HB.out)⟩
             · rw [if_neg c21] at H
               have c21b0 : ((rdOf false l0_1 x5_2) != (rdOf false l1_1 x5_2)) = false := by simpa using c21
               (try (have c21b1 : decide ((rdOf false l0_1 x5_2) = (rdOf false l1_1 x5_2)) = true := by simpa using c21))
               (try (have c21b2 : ((rdOf false l0_1 x5_2) == (rdOf false l1_1 x5_2)) = true := by simpa using c21))
               clear c21
               have H' := Aside0.mk H
               clear H
               have hnb25 := NB372_373.out
               have hnc25 := NB373_372.out
               have hcz26_0 : wr.cell? ⟨gb372, 0, none⟩ = some (.int .u64 a0_0) := (blk_cell BK372.out 0).trans rfl
               have hcz26_1 : wr.cell? ⟨gb372, 1, none⟩ = some (.slice A0_1 l0_1.length c0_1) := (blk_cell BK372.out 1).trans rfl
               have hcz26_2 : wr.cell? ⟨gb372, 2, none⟩ = some (.slice A0_2 l0_2.length c0_2) := (blk_cell BK372.out 2).trans rfl
               have hfz26_0 := blk_frozen BK372.out 0
               have hfz26_1 := blk_frozen BK372.out 1
               have hfz26_2 := blk_frozen BK372.out 2
               have p374 : 0 ≤ (x5_2 : Int) := of_decide_eq_true (by first | (with_reducible assumption) | assumption)
               have q374 : x5_2 < (l0_1.length : Int) := of_decide_eq_true (by first | (with_reducible assumption) | assumption)
               obtain ⟨ad374, e374, hx374_0⟩ := Kd.at_bool HR0_1.out x5_2 p374 q374
               cases e374
               replace hx374_0 := (HB.out.cell (World.block_lt_of_cell? w _ hx374_0)).trans hx374_0
               replace p374 := eq_true p374
               replace q374 := eq_true q374
               have hcz27_0 : wr.cell? ⟨gb373, 0, none⟩ = some (.int .u64 a1_0) := (blk_cell BK373.out 0).trans rfl
               have hcz27_1 : wr.cell? ⟨gb373, 1, none⟩ = some (.slice A1_1 l1_1.length c1_1) := (blk_cell BK373.out 1).trans rfl
               have hcz27_2 : wr.cell? ⟨gb373, 2, none⟩ = some (.slice A1_2 l1_2.length c1_2) := (blk_cell BK373.out 2).trans rfl
               have hfz27_0 := blk_frozen BK373.out 0
               have hfz27_1 := blk_frozen BK373.out 1
               have hfz27_2 := blk_frozen BK373.out 2
               have p375 : 0 ≤ (x5_2 : Int) := of_decide_eq_true (by first | (with_reducible assumption) | assumption)
               have q375 : x5_2 < (l1_1.length : Int) := of_decide_eq_true (by first | (with_reducible assumption) | assumption)
               obtain ⟨ad375, e375, hx375_0⟩ := Kd.at_bool HR1_1.out x5_2 p375 q375
               cases e375
               replace hx375_0 := (HB.out.cell (World.block_lt_of_cell? w _ hx375_0)).trans hx375_0
               replace p375 := eq_true p375
               replace q375 := eq_true q375
               go_wp2
               repeat (go_quiet (fail); try go_wp2)
               go_roundg k2
               case measure => have := HJ2.out; have := HK2.out; omega
               case rel => exact ⟨(wrap64 (x5_2 + 1)), (by first | rfl | (simp; done) | (simp [*]; done)), H', ⟨by have := HJ2.out; have := HK2.out; omega⟩, ⟨by (with_reducible repeat (first | refine blk_drewN ?_ _ | refine blk_drew ?_ | refine blk_alloc ?_ _)); exact BK372.out⟩, ⟨by (with_reducible repeat (first | refine blk_drewN ?_ _ | refine blk_drew ?_ | refine blk_alloc ?_ _)); exact BK373.out⟩, ⟨by repeat (first | (with_reducible first | exact HB.out | apply below_alloc | apply pw_below_drewN | apply below_drew1 | refine below_set ?_ GE372.out | refine below_set ?_ GE373.out) | exact HB.out)⟩⟩
           · rw [if_neg c20] at H
             exact absurd H (by simp)
         · rw [if_neg c19] at H
           exact absurd H (by simp)
       · rw [if_neg c18] at H
         have c18b0 : decide (x5_2 < (l0_1.length : Int)) = false := decide_eq_false c18
         clear c18
         have H' := Aside0.mk H
         clear H
         have hnb28 := NB372_373.out
         have hnc28 := NB373_372.out
         have hcz29_0 : wr.cell? ⟨gb372, 0, none⟩ = some (.int .u64 a0_0) := (blk_cell BK372.out 0).trans rfl
         have hcz29_1 : wr.cell? ⟨gb372, 1, none⟩ = some (.slice A0_1 l0_1.length c0_1) := (blk_cell BK372.out 1).trans rfl
         have hcz29_2 : wr.cell? ⟨gb372, 2, none⟩ = some (.slice A0_2 l0_2.length c0_2) := (blk_cell BK372.out 2).trans rfl
         have hfz29_0 := blk_frozen BK372.out 0
         have hfz29_1 := blk_frozen BK372.out 1
         have hfz29_2 := blk_frozen BK372.out 2
         go_wp2
         repeat (go_quiet (fail); try go_wp2)
         go_loopg [6] k2 (fun kq v6 w' => ∃ (x6_3 : Int), v6 = .int .i64 x6_3 ∧ Aside0 (braidworkref12_SameTopo.l1 kq x6_3 a0_0 l0_1 l0_2 a1_0 l1_1 l1_2 = some r) ∧ Aside0 (kq ≤ k2) ∧ Aside0 (w'.heap[gb372]? = some (.cells #[.int .u64 a0_0, (.slice A0_1 l0_1.length c0_1), (.slice A0_2 l0_2.length c0_2)] 29 (0, 0))) ∧ Aside0 (w'.heap[gb373]? = some (.cells #[.int .u64 a1_0, (.slice A1_1 l1_1.length c1_1), (.slice A1_2 l1_2.length c1_2)] 29 (0, 0))) ∧ Aside0 (Below w.heap.size w w'))
         case atStart => exact ⟨(0), (by first | rfl | (simp; done) | (simp [*]; done)), H', ⟨Nat.le_refl _⟩, ⟨by (with_reducible repeat (first | refine blk_drewN ?_ _ | refine blk_drew ?_ | refine blk_alloc ?_ _)); exact BK372.out⟩, ⟨by (with_reducible repeat (first | refine blk_drewN ?_ _ | refine blk_drew ?_ | refine blk_alloc ?_ _)); exact BK373.out⟩, ⟨by repeat (first | (with_reducible first | exact HB.out | apply below_alloc | apply pw_below_drewN | apply below_drew1 | refine below_set ?_ GE372.out | refine below_set ?_ GE373.out) | exact HB.out)⟩⟩
         case round =>
          clear H'
          try clear c1
          try clear c2
          try clear p2
          try clear p3
          try clear q3
          try clear hx3
          try clear c6
          try clear c6b0
          try clear c6b1
          try clear p6
          try clear c7
          try clear c7b0
          try clear c7b1
          try clear c7b2
          try clear c8
          try clear c11
          try clear c14
          try clear c17
          try clear c18
          try clear c18b0
          try clear c19
          try clear c19b0
          try clear c20
          try clear c20b0
          try clear c21
          try clear c21b0
          try clear c21b1
          try clear c21b2
          try clear c22
          try clear c25
          try clear c28
          try clear hcz10_0
          try clear hcz10_1
          try clear hcz10_2
          try clear hcz12_0
          try clear hcz12_1
          try clear hcz12_2
          try clear hcz13_0
          try clear hcz13_1
          try clear hcz13_2
          try clear hcz15_0
          try clear hcz15_1
          try clear hcz15_2
          try clear hcz16_0
          try clear hcz16_1
          try clear hcz16_2
          try clear hcz23_0
          try clear hcz23_1
          try clear hcz23_2
          try clear hcz24_0
          try clear hcz24_1
          try clear hcz24_2
          try clear hcz26_0
          try clear hcz26_1
          try clear hcz26_2
          try clear hcz27_0
          try clear hcz27_1
          try clear hcz27_2
          try clear hcz29_0
          try clear hcz29_1
          try clear hcz29_2
          try clear hcz9_0
          try clear hcz9_1
          try clear hcz9_2
          try clear hfz10_0
          try clear hfz10_1
          try clear hfz10_2
          try clear hfz12_0
          try clear hfz12_1
          try clear hfz12_2
          try clear hfz13_0
          try clear hfz13_1
          try clear hfz13_2
          try clear hfz15_0
          try clear hfz15_1
          try clear hfz15_2
          try clear hfz16_0
          try clear hfz16_1
          try clear hfz16_2
          try clear hfz23_0
          try clear hfz23_1
          try clear hfz23_2
          try clear hfz24_0
          try clear hfz24_1
          try clear hfz24_2
          try clear hfz26_0
          try clear hfz26_1
          try clear hfz26_2
          try clear hfz27_0
          try clear hfz27_1
          try clear hfz27_2
          try clear hfz29_0
          try clear hfz29_1
          try clear hfz29_2
          try clear hfz9_0
          try clear hfz9_1
          try clear hfz9_2
          try clear hx374_0
          try clear hx375_0
          try clear p2
          try clear p374
          try clear p375
          try clear q374
          try clear q375
          obtain ⟨x6_3, rfl, HA, HK3, BK372, BK373, HB⟩ := hrel
          cases gk with
          | zero => exact absurd HA.out (by simp [braidworkref12_SameTopo.l1])
          | succ k3 =>
           have H := HA.out
           clear HA
           simp only [braidworkref12_SameTopo.l1] at H
           by_cases c30 : x6_3 < (l0_2.length : Int)
           · rw [if_pos c30] at H
             have c30b0 : decide (x6_3 < (l0_2.length : Int)) = true := decide_eq_true c30
             clear c30
             by_cases c31 : 0 ≤ x6_3
             · rw [if_pos c31] at H
               have c31b0 : decide (0 ≤ x6_3) = true := decide_eq_true c31
               clear c31
               by_cases c32 : x6_3 < (l1_2.length : Int)
               · rw [if_pos c32] at H
                 have c32b0 : decide (x6_3 < (l1_2.length : Int)) = true := decide_eq_true c32
                 clear c32
                 by_cases c33 : ((rd_L5 l0_2 x6_3).length : Int) = ((rd_L5 l1_2 x6_3).length : Int)
                 · rw [if_pos c33] at H
                   have c33b0 : (((rd_L5 l0_2 x6_3).length : Int) == ((rd_L5 l1_2 x6_3).length : Int)) = true := beq_iff_eq.mpr c33
                   have c33b1 : (((rd_L5 l0_2 x6_3).length : Int) != ((rd_L5 l1_2 x6_3).length : Int)) = false := bne_eq_false_iff_eq.mpr c33
                   have c33b2 : ((rd_L5 l0_2 x6_3).length == (rd_L5 l1_2 x6_3).length) = true := by first | simpa using c33 | (simp at c33 ⊢; omega)
                   clear c33
                   have H' := Aside0.mk H
                   clear H
                   have hnb34 := NB372_373.out
                   have hnc34 := NB373_372.out
                   have hcz35_0 : wr.cell? ⟨gb372, 0, none⟩ = some (.int .u64 a0_0) := (blk_cell BK372.out 0).trans rfl
                   have hcz35_1 : wr.cell? ⟨gb372, 1, none⟩ = some (.slice A0_1 l0_1.length c0_1) := (blk_cell BK372.out 1).trans rfl
                   have hcz35_2 : wr.cell? ⟨gb372, 2, none⟩ = some (.slice A0_2 l0_2.length c0_2) := (blk_cell BK372.out 2).trans rfl
                   have hfz35_0 := blk_frozen BK372.out 0
                   have hfz35_1 := blk_frozen BK372.out 1
                   have hfz35_2 := blk_frozen BK372.out 2
                   have p376 : 0 ≤ (x6_3 : Int) := of_decide_eq_true (by first | (with_reducible assumption) | assumption)
                   have q376 : x6_3 < (l0_2.length : Int) := of_decide_eq_true (by first | (with_reducible assumption) | assumption)
                   obtain ⟨ad376, A376_0, c376_0, e376, hx376_0, hl376_0, hi376_0⟩ := at_L5 HR0_2.out x6_3 p376 q376
                   cases e376
                   replace hx376_0 := (HB.out.cell (World.block_lt_of_cell? w _ hx376_0)).trans hx376_0
                   have HR376_0 := Aside0.mk hi376_0
                   have HC376_0 := Aside0.mk hl376_0
                   clear hi376_0 hl376_0
                   replace p376 := eq_true p376
                   replace q376 := eq_true q376
                   have hcz36_0 : wr.cell? ⟨gb373, 0, none⟩ = some (.int .u64 a1_0) := (blk_cell BK373.out 0).trans rfl
                   have hcz36_1 : wr.cell? ⟨gb373, 1, none⟩ = some (.slice A1_1 l1_1.length c1_1) := (blk_cell BK373.out 1).trans rfl
                   have hcz36_2 : wr.cell? ⟨gb373, 2, none⟩ = some (.slice A1_2 l1_2.length c1_2) := (blk_cell BK373.out 2).trans rfl
                   have hfz36_0 := blk_frozen BK373.out 0
                   have hfz36_1 := blk_frozen BK373.out 1
                   have hfz36_2 := blk_frozen BK373.out 2
                   have p377 : 0 ≤ (x6_3 : Int) := of_decide_eq_true (by first | (with_reducible assumption) | assumption)
                   have q377 : x6_3 < (l1_2.length : Int) := of_decide_eq_true (by first | (with_reducible assumption) | assumption)
                   obtain ⟨ad377, A377_0, c377_0, e377, hx377_0, hl377_0, hi377_0⟩ := at_L5 HR1_2.out x6_3 p377 q377
                   cases e377
                   replace hx377_0 := (HB.out.cell (World.block_lt_of_cell? w _ hx377_0)).trans hx377_0
                   have HR377_0 := Aside0.mk hi377_0
                   have HC377_0 := Aside0.mk hl377_0
                   clear hi377_0 hl377_0
                   replace p377 := eq_true p377
                   replace q377 := eq_true q377
                   go_wp2
                   repeat (go_quiet (fail); try go_wp2)
                   go_loopg [7] k3 (fun kq v7 w' => ∃ (x7_4 : Int), v7 = .int .i64 x7_4 ∧ Aside0 (braidworkref12_SameTopo.l2 kq x6_3 x7_4 a0_0 l0_1 l0_2 a1_0 l1_1 l1_2 = some r) ∧ Aside0 (kq ≤ k3) ∧ Aside0 (w'.heap[gb372]? = some (.cells #[.int .u64 a0_0, (.slice A0_1 l0_1.length c0_1), (.slice (some ad376) l0_2.length c0_2)] 29 (0, 0))) ∧ Aside0 (w'.heap[gb373]? = some (.cells #[.int .u64 a1_0, (.slice A1_1 l1_1.length c1_1), (.slice (some ad377) l1_2.length c1_2)] 29 (0, 0))) ∧ Aside0 (Below w.heap.size w w'))
                   case atStart => exact ⟨(0), (by first | rfl | (simp; done) | (simp [*]; done)), H', ⟨Nat.le_refl _⟩, ⟨by (with_reducible repeat (first | refine blk_drewN ?_ _ | refine blk_drew ?_ | refine blk_alloc ?_ _)); exact BK372.out⟩, ⟨by (with_reducible repeat (first | refine blk_drewN ?_ _ | refine blk_drew ?_ | refine blk_alloc ?_ _)); exact BK373.out⟩, ⟨by repeat (first | (with_reducible first | exact HB.out | apply below_alloc | apply pw_below_drewN | apply below_drew1 | refine below_set ?_ GE372.out | refine below_set ?_ GE373.out) | exact HB.out)⟩⟩
                   case round =>
                    clear H'
                    try clear c1
                    try clear c2
                    try clear p2
                    try clear c3
                    try clear p3
                    try clear q3
                    try clear hx3
                    try clear c6
                    try clear c6b0
                    try clear c6b1
                    try clear p6
                    try clear c7
                    try clear c7b0
                    try clear c7b1
                    try clear c7b2
                    try clear c8
                    try clear c11
                    try clear c14
                    try clear c17
                    try clear c18
                    try clear c18b0
                    try clear c19
                    try clear c19b0
                    try clear c20
                    try clear c20b0
                    try clear c21
                    try clear c21b0
                    try clear c21b1
                    try clear c21b2
                    try clear c22
                    try clear c25
                    try clear c28
                    try clear c30
                    try clear c30b0
                    try clear c31
                    try clear c31b0
                    try clear c32
                    try clear c32b0
                    try clear c33
                    try clear c33b0
                    try clear c33b1
                    try clear c33b2
                    try clear c34
                    try clear hcz10_0
                    try clear hcz10_1
                    try clear hcz10_2
                    try clear hcz12_0
                    try clear hcz12_1
                    try clear hcz12_2
                    try clear hcz13_0
                    try clear hcz13_1
                    try clear hcz13_2
                    try clear hcz15_0
                    try clear hcz15_1
                    try clear hcz15_2
                    try clear hcz16_0
                    try clear hcz16_1
                    try clear hcz16_2
                    try clear hcz23_0
                    try clear hcz23_1
                    try clear hcz23_2
                    try clear hcz24_0
                    try clear hcz24_1
                    try clear hcz24_2
                    try clear hcz26_0
                    try clear hcz26_1
                    try clear hcz26_2
                    try clear hcz27_0
                    try clear hcz27_1
                    try clear hcz27_2
                    try clear hcz29_0
                    try clear hcz29_1
                    try clear hcz29_2
                    try clear hcz35_0
                    try clear hcz35_1
                    try clear hcz35_2
                    try clear hcz36_0
                    try clear hcz36_1
                    try clear hcz36_2
                    try clear hcz9_0
                    try clear hcz9_1
                    try clear hcz9_2
                    try clear hfz10_0
                    try clear hfz10_1
                    try clear hfz10_2
                    try clear hfz12_0
                    try clear hfz12_1
                    try clear hfz12_2
                    try clear hfz13_0
                    try clear hfz13_1
                    try clear hfz13_2
                    try clear hfz15_0
                    try clear hfz15_1
                    try clear hfz15_2
                    try clear hfz16_0
                    try clear hfz16_1
                    try clear hfz16_2
                    try clear hfz23_0
                    try clear hfz23_1
                    try clear hfz23_2
                    try clear hfz24_0
                    try clear hfz24_1
                    try clear hfz24_2
                    try clear hfz26_0
                    try clear hfz26_1
                    try clear hfz26_2
                    try clear hfz27_0
                    try clear hfz27_1
                    try clear hfz27_2
                    try clear hfz29_0
                    try clear hfz29_1
                    try clear hfz29_2
                    try clear hfz35_0
                    try clear hfz35_1
                    try clear hfz35_2
                    try clear hfz36_0
                    try clear hfz36_1
                    try clear hfz36_2
                    try clear hfz9_0
                    try clear hfz9_1
                    try clear hfz9_2
                    try clear hx374_0
                    try clear hx375_0
                    try clear hx376_0
                    try clear hx377_0
                    try clear p2
                    try clear p3
                    try clear p374
                    try clear p375
                    try clear p376
                    try clear p377
                    try clear p6
                    try clear q3
                    try clear q374
                    try clear q375
                    try clear q376
                    try clear q377
                    obtain ⟨x7_4, rfl, HA, HK4, BK372, BK373, HB⟩ := hrel
                    cases gk with
                    | zero => exact absurd HA.out (by simp [braidworkref12_SameTopo.l2])
                    | succ k4 =>
                     have H := HA.out
                     clear HA
                     simp only [braidworkref12_SameTopo.l2] at H
                     by_cases c37 : 0 ≤ x6_3
                     · rw [if_pos c37] at H
                       have c37b0 : decide (0 ≤ x6_3) = true := decide_eq_true c37
                       clear c37
                       by_cases c38 : x6_3 < (l0_2.length : Int)
                       · rw [if_pos c38] at H
                         have c38b0 : decide (x6_3 < (l0_2.length : Int)) = true := decide_eq_true c38
                         clear c38
                         by_cases c39 : x7_4 < ((rd_L5 l0_2 x6_3).length : Int)
                         · rw [if_pos c39] at H
                           have c39b0 : decide (x7_4 < ((rd_L5 l0_2 x6_3).length : Int)) = true := decide_eq_true c39
                           clear c39
                           by_cases c40 : 0 ≤ x7_4
                           · rw [if_pos c40] at H
                             have c40b0 : decide (0 ≤ x7_4) = true := decide_eq_true c40
                             clear c40
                             by_cases c41 : x6_3 < (l1_2.length : Int)
                             · rw [if_pos c41] at H
                               have c41b0 : decide (x6_3 < (l1_2.length : Int)) = true := decide_eq_true c41
                               clear c41
                               by_cases c42 : x7_4 < ((rd_L5 l1_2 x6_3).length : Int)
                               · rw [if_pos c42] at H
                                 have c42b0 : decide (x7_4 < ((rd_L5 l1_2 x6_3).length : Int)) = true := decide_eq_true c42
                                 clear c42
                                 by_cases c43 : (!(((rd_T40 (rd_L5 l0_2 x6_3) x7_4).f0) == ((rd_T40 (rd_L5 l1_2 x6_3) x7_4).f0)) || (!(((rd_T40 (rd_L5 l0_2 x6_3) x7_4).f1) == ((rd_T40 (rd_L5 l1_2 x6_3) x7_4).f1)))) = true
                                 · rw [if_pos c43] at H
                                   have c43b0 : (!(((rd_T40 (rd_L5 l0_2 x6_3) x7_4).f0) == ((rd_T40 (rd_L5 l1_2 x6_3) x7_4).f0)) || (!(((rd_T40 (rd_L5 l0_2 x6_3) x7_4).f1) == ((rd_T40 (rd_L5 l1_2 x6_3) x7_4).f1)))) = true := c43
                                   clear c43
                                   obtain rfl := Option.some.inj H
                                   have hnb44 := NB372_373.out
                                   have hnc44 := NB373_372.out
                                   have hcz45_0 : wr.cell? ⟨gb372, 0, none⟩ = some (.int .u64 a0_0) := (blk_cell BK372.out 0).trans rfl
                                   have hcz45_1 : wr.cell? ⟨gb372, 1, none⟩ = some (.slice A0_1 l0_1.length c0_1) := (blk_cell BK372.out 1).trans rfl
                                   have hcz45_2 : wr.cell? ⟨gb372, 2, none⟩ = some (.slice (some ad376) l0_2.length c0_2) := (blk_cell BK372.out 2).trans rfl
                                   have hfz45_0 := blk_frozen BK372.out 0
                                   have hfz45_1 := blk_frozen BK372.out 1
                                   have hfz45_2 := blk_frozen BK372.out 2
                                   have p378 : 0 ≤ (x6_3 : Int) := of_decide_eq_true (by first | (with_reducible assumption) | assumption)
                                   have q378 : x6_3 < (l0_2.length : Int) := of_decide_eq_true (by first | (with_reducible assumption) | assumption)
                                   obtain ⟨ad378, A378_0, c378_0, e378, hx378_0, hl378_0, hi378_0⟩ := at_L5 HR0_2.out x6_3 p378 q378
                                   obtain rfl : ad376 = ad378 := (by injection e378)
                                   replace hx378_0 := (HB.out.cell (World.block_lt_of_cell? w _ hx378_0)).trans hx378_0
                                   have HR378_0 := Aside0.mk hi378_0
                                   have HC378_0 := Aside0.mk hl378_0
                                   clear hi378_0 hl378_0
                                   replace p378 := eq_true p378
                                   replace q378 := eq_true q378
                                   have p379 : 0 ≤ (x6_3 : Int) := of_decide_eq_true (by first | (with_reducible assumption) | assumption)
                                   have q379 : x6_3 < (l0_2.length : Int) := of_decide_eq_true (by first | (with_reducible assumption) | assumption)
                                   obtain ⟨ad379, A379_0, c379_0, e379, hx379_0, hl379_0, hi379_0⟩ := at_L5 HR0_2.out x6_3 p379 q379
                                   obtain rfl : ad376 = ad379 := (by injection e379)
                                   replace hx379_0 := (HB.out.cell (World.block_lt_of_cell? w _ hx379_0)).trans hx379_0
                                   have HR379_0 := Aside0.mk hi379_0
                                   have HC379_0 := Aside0.mk hl379_0
                                   clear hi379_0 hl379_0
                                   replace p379 := eq_true p379
                                   replace q379 := eq_true q379
                                   have ea_ := Option.some.inj (hx378_0.symm.trans hx379_0)
                                   injection ea_ with ea_ en_ ec_
                                   subst ea_
                                   subst ec_
                                   clear en_
                                   have p380 : 0 ≤ (x7_4 : Int) := of_decide_eq_true (by first | (with_reducible assumption) | assumption)
                                   have q380 : x7_4 < ((rd_L5 l0_2 x6_3).length : Int) := of_decide_eq_true (by first | (with_reducible assumption) | assumption)
                                   obtain ⟨ad380, e380, hx380_0, hx380_1⟩ := at_T40 HR379_0.out x7_4 p380 q380
                                   cases e380
                                   replace hx380_0 := (HB.out.cell (World.block_lt_of_cell? w _ hx380_0)).trans hx380_0
                                   replace hx380_1 := (HB.out.cell (World.block_lt_of_cell? w _ hx380_1)).trans hx380_1
                                   replace p380 := eq_true p380
                                   replace q380 := eq_true q380
                                   have hcz46_0 : wr.cell? ⟨gb373, 0, none⟩ = some (.int .u64 a1_0) := (blk_cell BK373.out 0).trans rfl
                                   have hcz46_1 : wr.cell? ⟨gb373, 1, none⟩ = some (.slice A1_1 l1_1.length c1_1) := (blk_cell BK373.out 1).trans rfl
                                   have hcz46_2 : wr.cell? ⟨gb373, 2, none⟩ = some (.slice (some ad377) l1_2.length c1_2) := (blk_cell BK373.out 2).trans rfl
                                   have hfz46_0 := blk_frozen BK373.out 0
                                   have hfz46_1 := blk_frozen BK373.out 1
                                   have hfz46_2 := blk_frozen BK373.out 2
                                   have p381 : 0 ≤ (x6_3 : Int) := of_decide_eq_true (by first | (with_reducible assumption) | assumption)
                                   have q381 : x6_3 < (l1_2.length : Int) := of_decide_eq_true (by first | (with_reducible assumption) | assumption)
                                   obtain ⟨ad381, A381_0, c381_0, e381, hx381_0, hl381_0, hi381_0⟩ := at_L5 HR1_2.out x6_3 p381 q381
                                   obtain rfl : ad377 = ad381 := (by injection e381)
                                   replace hx381_0 := (HB.out.cell (World.block_lt_of_cell? w _ hx381_0)).trans hx381_0
                                   have HR381_0 := Aside0.mk hi381_0
                                   have HC381_0 := Aside0.mk hl381_0
                                   clear hi381_0 hl381_0
                                   replace p381 := eq_true p381
                                   replace q381 := eq_true q381
                                   have p382 : 0 ≤ (x7_4 : Int) := of_decide_eq_true (by first | (with_reducible assumption) | assumption)
                                   have q382 : x7_4 < ((rd_L5 l1_2 x6_3).length : Int) := of_decide_eq_true (by first | (with_reducible assumption) | assumption)
                                   obtain ⟨ad382, e382, hx382_0, hx382_1⟩ := at_T40 HR381_0.out x7_4 p382 q382
                                   cases e382
                                   replace hx382_0 := (HB.out.cell (World.block_lt_of_cell? w _ hx382_0)).trans hx382_0
                                   replace hx382_1 := (HB.out.cell (World.block_lt_of_cell? w _ hx382_1)).trans hx382_1
                                   replace p382 := eq_true p382
                                   replace q382 := eq_true q382
                                   go_wp2
                                   repeat (go_quiet (fail); try go_wp2)
                                   go_ret
                                   exact ⟨by first | rfl | (simp [errW_none, errW_some] <;> rfl) | (simp [*, errW_none, errW_some] <;> rfl), by repeat (first | (with_reducible first | exact HB.out | apply below_alloc | apply pw_below_drewN | apply below_drew1 | refine below_set ?_ GE372.out | refine below_set ?_ GE373.out) | exact HB.out)⟩
                                 · rw [if_neg c43] at H
                                   have c43b0 : (!(((rd_T40 (rd_L5 l0_2 x6_3) x7_4).f0) == ((rd_T40 (rd_L5 l1_2 x6_3) x7_4).f0)) || (!(((rd_T40 (rd_L5 l0_2 x6_3) x7_4).f1) == ((rd_T40 (rd_L5 l1_2 x6_3) x7_4).f1)))) = false := by simpa using c43
                                   clear c43
                                   have H' := Aside0.mk H
                                   clear H
                                   have hnb47 := NB372_373.out
                                   have hnc47 := NB373_372.out
                                   have hcz48_0 : wr.cell? ⟨gb372, 0, none⟩ = some (.int .u64 a0_0) := (blk_cell BK372.out 0).trans rfl
                                   have hcz48_1 : wr.cell? ⟨gb372, 1, none⟩ = some (.slice A0_1 l0_1.length c0_1) := (blk_cell BK372.out 1).trans rfl
                                   have hcz48_2 : wr.cell? ⟨gb372, 2, none⟩ = some (.slice (some ad376) l0_2.length c0_2) := (blk_cell BK372.out 2).trans rfl
                                   have hfz48_0 := blk_frozen BK372.out 0
                                   have hfz48_1 := blk_frozen BK372.out 1
                                   have hfz48_2 := blk_frozen BK372.out 2
                                   have p378 : 0 ≤ (x6_3 : Int) := of_decide_eq_true (by first | (with_reducible assumption) | assumption)
                                   have q378 : x6_3 < (l0_2.length : Int) := of_decide_eq_true (by first | (with_reducible assumption) | assumption)
                                   obtain ⟨ad378, A378_0, c378_0, e378, hx378_0, hl378_0, hi378_0⟩ := at_L5 HR0_2.out x6_3 p378 q378
                                   obtain rfl : ad376 = ad378 := (by injection e378)
                                   replace hx378_0 := (HB.out.cell (World.block_lt_of_cell? w _ hx378_0)).trans hx378_0
                                   have HR378_0 := Aside0.mk hi378_0
                                   have HC378_0 := Aside0.mk hl378_0
                                   clear hi378_0 hl378_0
                                   replace p378 := eq_true p378
                                   replace q378 := eq_true q378
                                   have p379 : 0 ≤ (x6_3 : Int) := of_decide_eq_true (by first | (with_reducible assumption) | assumption)
                                   have q379 : x6_3 < (l0_2.length : Int) := of_decide_eq_true (by first | (with_reducible assumption) | assumption)
                                   obtain ⟨ad379, A379_0, c379_0, e379, hx379_0, hl379_0, hi379_0⟩ := at_L5 HR0_2.out x6_3 p379 q379
                                   obtain rfl : ad376 = ad379 := (by injection e379)
                                   replace hx379_0 := (HB.out.cell (World.block_lt_of_cell? w _ hx379_0)).trans hx379_0
                                   have HR379_0 := Aside0.mk hi379_0
                                   have HC379_0 := Aside0.mk hl379_0
                                   clear hi379_0 hl379_0
                                   replace p379 := eq_true p379
                                   replace q379 := eq_true q379
                                   have ea_ := Option.some.inj (hx378_0.symm.trans hx379_0)
                                   injection ea_ with ea_ en_ ec_
                                   subst ea_
                                   subst ec_
                                   clear en_
                                   have p380 : 0 ≤ (x7_4 : Int) := of_decide_eq_true (by first | (with_reducible assumption) | assumption)
                                   have q380 : x7_4 < ((rd_L5 l0_2 x6_3).length : Int) := of_decide_eq_true (by first | (with_reducible assumption) | assumption)
                                   obtain ⟨ad380, e380, hx380_0, hx380_1⟩ := at_T40 HR379_0.out x7_4 p380 q380
                                   cases e380
                                   replace hx380_0 := (HB.out.cell (World.block_lt_of_cell? w _ hx380_0)).trans hx380_0
                                   replace hx380_1 := (HB.out.cell (World.block_lt_of_cell? w _ hx380_1)).trans hx380_1
                                   replace p380 := eq_true p380
                                   replace q380 := eq_true q380
                                   have hcz49_0 : wr.cell? ⟨gb373, 0, none⟩ = some (.int .u64 a1_0) := (blk_cell BK373.out 0).trans rfl
                                   have hcz49_1 : wr.cell? ⟨gb373, 1, none⟩ = some (.slice A1_1 l1_1.length c1_1) := (blk_cell BK373.out 1).trans rfl
                                   have hcz49_2 : wr.cell? ⟨gb373, 2, none⟩ = some (.slice (some ad377) l1_2.length c1_2) := (blk_cell BK373.out 2).trans rfl
                                   have hfz49_0 := blk_frozen BK373.out 0
                                   have hfz49_1 := blk_frozen BK373.out 1
                                   have hfz49_2 := blk_frozen BK373.out 2
                                   have p381 : 0 ≤ (x6_3 : Int) := of_decide_eq_true (by first | (with_reducible assumption) | assumption)
                                   have q381 : x6_3 < (l1_2.length : Int) := of_decide_eq_true (by first | (with_reducible assumption) | assumption)
                                   obtain ⟨ad381, A381_0, c381_0, e381, hx381_0, hl381_0, hi381_0⟩ := at_L5 HR1_2.out x6_3 p381 q381
                                   obtain rfl : ad377 = ad381 := (by injection e381)
                                   replace hx381_0 := (HB.out.cell (World.block_lt_of_cell? w _ hx381_0)).trans hx381_0
                                   have HR381_0 := Aside0.mk hi381_0
                                   have HC381_0 := Aside0.mk hl381_0
                                   clear hi381_0 hl381_0
                                   replace p381 := eq_true p381
                                   replace q381 := eq_true q381
                                   have p382 : 0 ≤ (x7_4 : Int) := of_decide_eq_true (by first | (with_reducible assumption) | assumption)
                                   have q382 : x7_4 < ((rd_L5 l1_2 x6_3).length : Int) := of_decide_eq_true (by first | (with_reducible assumption) | assumption)
                                   obtain ⟨ad382, e382, hx382_0, hx382_1⟩ := at_T40 HR381_0.out x7_4 p382 q382
                                   cases e382
                                   replace hx382_0 := (HB.out.cell (World.block_lt_of_cell? w _ hx382_0)).trans hx382_0
                                   replace hx382_1 := (HB.out.cell (World.block_lt_of_cell? w _ hx382_1)).trans hx382_1
                                   replace p382 := eq_true p382
                                   replace q382 := eq_true q382
                                   go_wp2
                                   repeat (go_quiet (fail); try go_wp2)
                                   go_roundg k4
                                   case measure => have := HJ2.out; have := HK2.out; have := HK3.out; have := HK4.out; omega
                                   case rel => exact ⟨(wrap64 (x7_4 + 1)), (by first | rfl | (simp; done) | (simp [*]; done)), H', ⟨by have := HJ2.out; have := HK2.out; have := HK3.out; have := HK4.out; omega⟩, ⟨by (with_reducible repeat (first | refine blk_drewN ?_ _ | refine blk_drew ?_ | refine blk_alloc ?_ _)); exact BK372.out⟩, ⟨by (with_reducible repeat (first | refine blk_drewN ?_ _ | refine blk_drew ?_ | refine blk_alloc ?_ _)); exact BK373.out⟩, ⟨by repeat (first | (with_reducible first | exact HB.out | apply below_alloc | apply pw_below_drewN | apply below_drew1 | refine below_set ?_ GE372.out | refine below_set ?_ GE373.out) | exact HB.out)⟩⟩
                               · rw [if_neg c42] at H
                                 exact absurd H (by simp)
                             · rw [if_neg c41] at H
                               exact absurd H (by simp)
                           · rw [if_neg c40] at H
                             exact absurd H (by simp)
                         · rw [if_neg c39] at H
                           have c39b0 : decide (x7_4 < ((rd_L5 l0_2 x6_3).length : Int)) = false := decide_eq_false c39
                           clear c39
                           have H' := Aside0.mk H
                           clear H
                           have hnb50 := NB372_373.out
                           have hnc50 := NB373_372.out
                           have hcz51_0 : wr.cell? ⟨gb372, 0, none⟩ = some (.int .u64 a0_0) := (blk_cell BK372.out 0).trans rfl
                           have hcz51_1 : wr.cell? ⟨gb372, 1, none⟩ = some (.slice A0_1 l0_1.length c0_1) := (blk_cell BK372.out 1).trans rfl
                           have hcz51_2 : wr.cell? ⟨gb372, 2, none⟩ = some (.slice (some ad376) l0_2.length c0_2) := (blk_cell BK372.out 2).trans rfl
                           have hfz51_0 := blk_frozen BK372.out 0
                           have hfz51_1 := blk_frozen BK372.out 1
                           have hfz51_2 := blk_frozen BK372.out 2
                           have p378 : 0 ≤ (x6_3 : Int) := of_decide_eq_true (by first | (with_reducible assumption) | assumption)
                           have q378 : x6_3 < (l0_2.length : Int) := of_decide_eq_true (by first | (with_reducible assumption) | assumption)
                           obtain ⟨ad378, A378_0, c378_0, e378, hx378_0, hl378_0, hi378_0⟩ := at_L5 HR0_2.out x6_3 p378 q378
                           obtain rfl : ad376 = ad378 := (by injection e378)
                           replace hx378_0 := (HB.out.cell (World.block_lt_of_cell? w _ hx378_0)).trans hx378_0
                           have HR378_0 := Aside0.mk hi378_0
                           have HC378_0 := Aside0.mk hl378_0
                           clear hi378_0 hl378_0
                           replace p378 := eq_true p378
                           replace q378 := eq_true q378
                           go_wp2
                           repeat (go_quiet (fail); try go_wp2)
                           go_roundg k4
                           case measure => have := HJ2.out; have := HK2.out; have := HK3.out; have := HK4.out; omega
                           case rel => exact ⟨(wrap64 (x6_3 + 1)), (by first | rfl | (simp; done) | (simp [*]; done)), H', ⟨by have := HJ2.out; have := HK2.out; have := HK3.out; have := HK4.out; omega⟩, ⟨by (with_reducible repeat (first | refine blk_drewN ?_ _ | refine blk_drew ?_ | refine blk_alloc ?_ _)); exact BK372.out⟩, ⟨by (with_reducible repeat (first | refine blk_drewN ?_ _ | refine blk_drew ?_ | refine blk_alloc ?_ _)); exact BK373.out⟩, ⟨by repeat (first | (with_reducible first | exact HB.out | apply below_alloc | apply pw_below_drewN | apply below_drew1 | refine below_set ?_ GE372.out | refine below_set ?_ GE373.out) | exact HB.out)⟩⟩
                       · rw [if_neg c38] at H
                         exact absurd H (by simp)
                     · rw [if_neg c37] at H
                       exact absurd H (by simp)
                 · rw [if_neg c33] at H
                   have c33b0 : (((rd_L5 l0_2 x6_3).length : Int) == ((rd_L5 l1_2 x6_3).length : Int)) = false := beq_eq_false_iff_ne.mpr c33
                   have c33b1 : (((rd_L5 l0_2 x6_3).length : Int) != ((rd_L5 l1_2 x6_3).length : Int)) = true := bne_iff_ne.mpr c33
                   have c33b2 : ((rd_L5 l0_2 x6_3).length == (rd_L5 l1_2 x6_3).length) = false := by first | simpa using c33 | (simp at c33 ⊢; omega)
                   obtain rfl := Option.some.inj H
                   have hnb52 := NB372_373.out
                   have hnc52 := NB373_372.out
                   have hcz53_0 : wr.cell? ⟨gb372, 0, none⟩ = some (.int .u64 a0_0) := (blk_cell BK372.out 0).trans rfl
                   have hcz53_1 : wr.cell? ⟨gb372, 1, none⟩ = some (.slice A0_1 l0_1.length c0_1) := (blk_cell BK372.out 1).trans rfl
                   have hcz53_2 : wr.cell? ⟨gb372, 2, none⟩ = some (.slice A0_2 l0_2.length c0_2) := (blk_cell BK372.out 2).trans rfl
                   have hfz53_0 := blk_frozen BK372.out 0
                   have hfz53_1 := blk_frozen BK372.out 1
                   have hfz53_2 := blk_frozen BK372.out 2
                   have p376 : 0 ≤ (x6_3 : Int) := of_decide_eq_true (by first | (with_reducible assumption) | assumption)
                   have q376 : x6_3 < (l0_2.length : Int) := of_decide_eq_true (by first | (with_reducible assumption) | assumption)
                   obtain ⟨ad376, A376_0, c376_0, e376, hx376_0, hl376_0, hi376_0⟩ := at_L5 HR0_2.out x6_3 p376 q376
                   cases e376
                   replace hx376_0 := (HB.out.cell (World.block_lt_of_cell? w _ hx376_0)).trans hx376_0
                   have HR376_0 := Aside0.mk hi376_0
                   have HC376_0 := Aside0.mk hl376_0
                   clear hi376_0 hl376_0
                   replace p376 := eq_true p376
                   replace q376 := eq_true q376
                   have hcz54_0 : wr.cell? ⟨gb373, 0, none⟩ = some (.int .u64 a1_0) := (blk_cell BK373.out 0).trans rfl
                   have hcz54_1 : wr.cell? ⟨gb373, 1, none⟩ = some (.slice A1_1 l1_1.length c1_1) := (blk_cell BK373.out 1).trans rfl
                   have hcz54_2 : wr.cell? ⟨gb373, 2, none⟩ = some (.slice A1_2 l1_2.length c1_2) := (blk_cell BK373.out 2).trans rfl
                   have hfz54_0 := blk_frozen BK373.out 0
                   have hfz54_1 := blk_frozen BK373.out 1
                   have hfz54_2 := blk_frozen BK373.out 2
                   have p377 : 0 ≤ (x6_3 : Int) := of_decide_eq_true (by first | (with_reducible assumption) | assumption)
                   have q377 : x6_3 < (l1_2.length : Int) := of_decide_eq_true (by first | (with_reducible assumption) | assumption)
                   obtain ⟨ad377, A377_0, c377_0, e377, hx377_0, hl377_0, hi377_0⟩ := at_L5 HR1_2.out x6_3 p377 q377
                   cases e377
                   replace hx377_0 := (HB.out.cell (World.block_lt_of_cell? w _ hx377_0)).trans hx377_0
                   have HR377_0 := Aside0.mk hi377_0
                   have HC377_0 := Aside0.mk hl377_0
                   clear hi377_0 hl377_0
                   replace p377 := eq_true p377
                   replace q377 := eq_true q377
                   go_wp2
                   repeat (go_quiet (fail); try go_wp2)
                   go_ret
                   exact ⟨by first | rfl | (simp [errW_none, errW_some] <;> rfl) | (simp [*, errW_none, errW_some] <;> rfl), by repeat (first | (with_reducible first | exact HB.out | apply below_alloc | apply pw_below_drewN | apply below_drew1 | refine below_set ?_ GE372.out | refine below_set ?_ GE373.out) | exact HB.out)⟩
               · rw [if_neg c32] at H
                 exact absurd H (by simp)
             · rw [if_neg c31] at H
               exact absurd H (by simp)
           · rw [if_neg c30] at H
             have c30b0 : decide (x6_3 < (l0_2.length : Int)) = false := decide_eq_false c30
             clear c30
             obtain rfl := Option.some.inj H
             have hnb55 := NB372_373.out
             have hnc55 := NB373_372.out
             have hcz56_0 : wr.cell? ⟨gb372, 0, none⟩ = some (.int .u64 a0_0) := (blk_cell BK372.out 0).trans rfl
             have hcz56_1 : wr.cell? ⟨gb372, 1, none⟩ = some (.slice A0_1 l0_1.length c0_1) := (blk_cell BK372.out 1).trans rfl
             have hcz56_2 : wr.cell? ⟨gb372, 2, none⟩ = some (.slice A0_2 l0_2.length c0_2) := (blk_cell BK372.out 2).trans rfl
             have hfz56_0 := blk_frozen BK372.out 0
             have hfz56_1 := blk_frozen BK372.out 1
             have hfz56_2 := blk_frozen BK372.out 2
             go_wp2
             repeat (go_quiet (fail); try go_wp2)
             go_ret
             exact ⟨by first | rfl | (simp [errW_none, errW_some] <;> rfl) | (simp [*, errW_none, errW_some] <;> rfl), by repeat (first | (with_reducible first | exact HB.out | apply below_alloc | apply pw_below_drewN | apply below_drew1 | refine below_set ?_ GE372.out | refine below_set ?_ GE373.out) | exact HB.out)⟩
end Go.Proofs.Ytkkfpmgmicfkfaa.X
/- Printed by a program of this session's own (wip/tools/xprint.py) out of the translation: functions as plain Lean, and their walks. -/
namespace Go.Proofs.Ytkkfpmgmicfkfaa.X
open Go.RowKit Go.Proofs.YtkkfpmgmicfkfaaW.PrintWords Go.Proofs.YtkkfpmgmicfkfaaW.PrintLast Go.Proofs.YtkkfpmgmicfkfaaW.PrintMore
attribute [local go_sem] max2_int min2_int max_two min_two max_three min_three max_four min_four   -- for this text's walks alone
set_option linter.unusedVariables false
set_option linter.unusedSimpArgs false
/-! ### braidworkref17_Same: function 44 -/
def braidworkref17_Same.l0 : Nat → List Int → List Int → Int → Option (Bool)
 | 0, _, _, _ => none
 | k + 1, x0, x1, x5 => if x5 < (x0.length : Int) then (if 0 ≤ x5 then (if x5 < (x1.length : Int) then (if (rd x0 x5) = (rd x1 x5) then (braidworkref17_Same.l0 k x0 x1 (wrap64 (x5 + 1))) else (some false)) else (none)) else (none)) else (some true)
def braidworkref17_Same.f (k : Nat) (l0 : List Int) (l1 : List Int) : Option (Bool) := if (l0.length : Int) = (l1.length : Int) then (braidworkref17_Same.l0 k l0 l1 0) else (some false)
theorem braidworkref17_Same.mono_l : ∀ k, (∀ y0 y1 y2, LeO (braidworkref17_Same.l0 k y0 y1 y2) (braidworkref17_Same.l0 (k + 1) y0 y1 y2))
 | 0 => fun _ _ _ r h => by simp [braidworkref17_Same.l0] at h
 | k + 1 => by
  have ih0 := braidworkref17_Same.mono_l k
  · intro y0 y1 y2
    unfold braidworkref17_Same.l0
    repeat' first
    | (with_reducible exact ih0 _ _ _)
    | (with_reducible exact LeO.refl _)
    | (with_reducible exact LeO.none _)
    | (with_reducible refine LeO.ite ?_ ?_)
    | (with_reducible refine LeO.bind ?_ (fun _ => ?_))
    | exact ih0 _ _ _
    | exact LeO.none _
    | refine LeO.ite ?_ ?_
    | refine LeO.bind ?_ (fun _ => ?_)
theorem braidworkref17_Same.mono : ∀ a0 a1 k, LeO (braidworkref17_Same.f k a0 a1) (braidworkref17_Same.f (k + 1) a0 a1) := by
 intro a0 a1 k
 have ih0 := braidworkref17_Same.mono_l k
 unfold braidworkref17_Same.f
 repeat' first
  | (with_reducible exact ih0 _ _ _)
  | (with_reducible exact LeO.refl _)
  | (with_reducible exact LeO.none _)
  | (with_reducible refine LeO.ite ?_ ?_)
  | (with_reducible refine LeO.bind ?_ (fun _ => ?_))
  | exact ih0 _ _ _
  | exact LeO.none _
  | refine LeO.ite ?_ ?_
  | refine LeO.bind ?_ (fun _ => ?_)
/-- A state of type 66 at block g of W; what its slices lead to came in by w0. -/
def IsS66 (w0 W : World) (g : Nat) (f0 : Int) (f1 : List (S77)) : Prop := ∃ A1 c1, W.heap[g]? = some (.cells #[.int .u64 f0, .slice A1 f1.length c1] 66 (0, 0)) ∧ w0.heap.size ≤ g ∧ Kd.C k77 w0 A1 f1.length f1
theorem IsS66.grown {w0 W : World} {g : Nat} {f0 : Int} {f1 : List (S77)} {W1 : World} {row : Option Nat} (h : IsS66 w0 W g f0 f1) (hw : W.grownBy W1 row) (hne : some g ≠ row) : IsS66 w0 W1 g f0 f1 := by
 obtain ⟨A1, c1, hb, hg, hr1⟩ := h
 exact ⟨A1, c1, blk_grown hb hw hne, hg, hr1⟩
theorem IsS66.below {w0 W : World} {g : Nat} {f0 : Int} {f1 : List (S77)} {W1 : World} (h : IsS66 w0 W g f0 f1) (hw : Below W.heap.size W W1) : IsS66 w0 W1 g f0 f1 := h.grown (grown_of_below hw none) (by simp)
theorem IsS66.alloc {w0 W : World} {g : Nat} {f0 : Int} {f1 : List (S77)} (h : IsS66 w0 W g f0 f1) (o : Obj) : IsS66 w0 (W.alloc o) g f0 f1 := h.below (below_alloc (Below.refl _ _) o)
theorem IsS66.drewN {w0 W : World} {g : Nat} {f0 : Int} {f1 : List (S77)} (h : IsS66 w0 W g f0 f1) (m : Nat) : IsS66 w0 (W.drewN m) g f0 f1 := h
theorem IsS66.drew {w0 W : World} {g : Nat} {f0 : Int} {f1 : List (S77)} (h : IsS66 w0 W g f0 f1) : IsS66 w0 W.drew g f0 f1 := h
theorem IsS66.apart {w0 W : World} {g : Nat} {f0 : Int} {f1 : List (S77)} {α : Type} {d : Kd α} {e : Nat} {base : Nat} {ok : Nat → Prop} {v : Value} {xs : List α} (h : IsS66 w0 W g f0 f1) (ho : d.R e W base ok v xs) (ht : ∀ q, q ∈ e :: d.E → q ≠ 66) : d.R e W base (fun k => ok k ∧ k ≠ g) v xs := by
 obtain ⟨A1, c1, hb, hg, hr1⟩ := h
 exact Kd.R_types ho hb ht
theorem IsS66.far {w0 W : World} {g : Nat} {f0 : Int} {f1 : List (S77)} {p : Addr} (h : IsS66 w0 W g f0 f1) (hne : g ≠ p.block) (u : Value) : IsS66 w0 (W.setCell p u) g f0 f1 := by
 obtain ⟨A1, c1, hb, hg, hr1⟩ := h
 exact ⟨A1, c1, blk_far hb hne u, hg, hr1⟩
/-! ### braidworkref17_Timers_at: function 106 -/
def braidworkref17_Timers_at.l0 : Nat → Int → Int → Int → List (S77) → Option (Int × Int)
 | 0, _, _, _, _ => none
 | k + 1, x1, x5, x1000, x1001 => if x5 < (x1001.length : Int) then (if 0 ≤ x5 then (if ((rd_T77 x1001 x5).f0) = x1 then (some (x5, x1000)) else (braidworkref17_Timers_at.l0 k x1 (wrap64 (x5 + 1)) x1000 x1001)) else (none)) else (some ((-1), x1000))
def braidworkref17_Timers_at.f (k : Nat) (s0_0 : Int) (s0_1 : List (S77)) (a1 : Int) : Option (Int × Int) := braidworkref17_Timers_at.l0 k a1 0 s0_0 s0_1
theorem braidworkref17_Timers_at.mono_l : ∀ k, (∀ y0 y1 y2 y3, LeO (braidworkref17_Timers_at.l0 k y0 y1 y2 y3) (braidworkref17_Timers_at.l0 (k + 1) y0 y1 y2 y3))
 | 0 => fun _ _ _ _ r h => by simp [braidworkref17_Timers_at.l0] at h
 | k + 1 => by
  have ih0 := braidworkref17_Timers_at.mono_l k
  · intro y0 y1 y2 y3
    unfold braidworkref17_Timers_at.l0
    repeat' first
    | (with_reducible exact ih0 _ _ _ _)
    | (with_reducible exact LeO.refl _)
    | (with_reducible exact LeO.none _)
    | (with_reducible refine LeO.ite ?_ ?_)
    | (with_reducible refine LeO.bind ?_ (fun _ => ?_))
    | exact ih0 _ _ _ _
    | exact LeO.none _
    | refine LeO.ite ?_ ?_
    | refine LeO.bind ?_ (fun _ => ?_)
theorem braidworkref17_Timers_at.mono : ∀ a0 a1 a2 k, LeO (braidworkref17_Timers_at.f k a0 a1 a2) (braidworkref17_Timers_at.f (k + 1) a0 a1 a2) := by
 intro a0 a1 a2 k
 have ih0 := braidworkref17_Timers_at.mono_l k
 unfold braidworkref17_Timers_at.f
 repeat' first
  | (with_reducible exact ih0 _ _ _ _)
  | (with_reducible exact LeO.refl _)
  | (with_reducible exact LeO.none _)
  | (with_reducible refine LeO.ite ?_ ?_)
  | (with_reducible refine LeO.bind ?_ (fun _ => ?_))
  | exact ih0 _ _ _ _
  | exact LeO.none _
  | refine LeO.ite ?_ ?_
  | refine LeO.bind ?_ (fun _ => ?_)
/-! ### braidworkref17_Timers_Next: function 46 -/
def braidworkref17_Timers_Next.l0 : Nat → Int → Int → Int → List (S77) → Option (Int × Bool × Int)
 | 0, _, _, _, _ => none
 | k + 1, x4, x5, x1000, x1001 => if x5 < (x1001.length : Int) then (if x5 = 0 then (if 0 ≤ x5 then (braidworkref17_Timers_Next.l0 k ((rd_T77 x1001 x5).f2) (wrap64 (x5 + 1)) x1000 x1001) else (none)) else (if 0 ≤ x5 then (if ((rd_T77 x1001 x5).f2) < x4 then (braidworkref17_Timers_Next.l0 k ((rd_T77 x1001 x5).f2) (wrap64 (x5 + 1)) x1000 x1001) else (braidworkref17_Timers_Next.l0 k x4 (wrap64 (x5 + 1)) x1000 x1001)) else (none))) else (some (x4, decide ((x1001.length : Int) > 0), x1000))
def braidworkref17_Timers_Next.f (k : Nat) (s0_0 : Int) (s0_1 : List (S77)) : Option (Int × Bool × Int) := braidworkref17_Timers_Next.l0 k 0 0 s0_0 s0_1
theorem braidworkref17_Timers_Next.mono_l : ∀ k, (∀ y0 y1 y2 y3, LeO (braidworkref17_Timers_Next.l0 k y0 y1 y2 y3) (braidworkref17_Timers_Next.l0 (k + 1) y0 y1 y2 y3))
 | 0 => fun _ _ _ _ r h => by simp [braidworkref17_Timers_Next.l0] at h
 | k + 1 => by
  have ih0 := braidworkref17_Timers_Next.mono_l k
  · intro y0 y1 y2 y3
    unfold braidworkref17_Timers_Next.l0
    repeat' first
    | (with_reducible exact ih0 _ _ _ _)
    | (with_reducible exact LeO.refl _)
    | (with_reducible exact LeO.none _)
    | (with_reducible refine LeO.ite ?_ ?_)
    | (with_reducible refine LeO.bind ?_ (fun _ => ?_))
    | exact ih0 _ _ _ _
    | exact LeO.none _
    | refine LeO.ite ?_ ?_
    | refine LeO.bind ?_ (fun _ => ?_)
theorem braidworkref17_Timers_Next.mono : ∀ a0 a1 k, LeO (braidworkref17_Timers_Next.f k a0 a1) (braidworkref17_Timers_Next.f (k + 1) a0 a1) := by
 intro a0 a1 k
 have ih0 := braidworkref17_Timers_Next.mono_l k
 unfold braidworkref17_Timers_Next.f
 repeat' first
  | (with_reducible exact ih0 _ _ _ _)
  | (with_reducible exact LeO.refl _)
  | (with_reducible exact LeO.none _)
  | (with_reducible refine LeO.ite ?_ ?_)
  | (with_reducible refine LeO.bind ?_ (fun _ => ?_))
  | exact ih0 _ _ _ _
  | exact LeO.none _
  | refine LeO.ite ?_ ?_
  | refine LeO.bind ?_ (fun _ => ?_)
/-! ### topo_within: function 64 -/
def topo_within.f (a0 : Int) (a1 : Int) (a2 : Int) : Option (Bool) := if a0 ≥ a1 then (some (decide (a0 ≤ a2))) else (some false)
set_option maxHeartbeats 8000000 in
set_option maxRecDepth 100000 in
theorem topo_within.calls (a0 : Int) (a1 : Int) (a2 : Int) (r : Bool) (w : World) (h : topo_within.f a0 a1 a2 = some r) :
 Calls Try.prog 64 #[.int .i64 a0, .int .i64 a1, .int .i64 a2] w fun e w' => e = .returned (.bool r) ∧ Drawn0 w w' := by
 have H : (if a0 ≥ a1 then (some (decide (a0 ≤ a2))) else (some false)) = some r := h
 clear h
 by_cases c4 : a0 ≥ a1
 · rw [if_pos c4] at H
   have c4b0 : decide (a1 ≤ a0) = true := decide_eq_true c4
   clear c4
   obtain rfl := Option.some.inj H
   go_enter Try.func64, Try.ntmps64
   go_wp2
   go_ret
   exact ⟨by first | rfl | (simp; done) | (simp [*]; done), by repeat (first | exact Drawn0.refl _ | apply Drawn0.step)⟩
 · rw [if_neg c4] at H
   have c4b0 : decide (a1 ≤ a0) = false := decide_eq_false c4
   clear c4
   obtain rfl := Option.some.inj H
   go_enter Try.func64, Try.ntmps64
   go_wp2
   go_ret
   exact ⟨by first | rfl | (simp; done) | (simp [*]; done), by repeat (first | exact Drawn0.refl _ | apply Drawn0.step)⟩
/-! ### braidworkref19_edges: function 77 -/
def braidworkref19_edges.f (a0_0 : Int) (l0_1 : List Bool) (l0_2 : List (List (S40))) (a1 : Int) : Option ((List (S40))) := if a1 < 0 then (some ([] : List (S40))) else (if a1 ≥ (l0_2.length : Int) then (some ([] : List (S40))) else (if 0 ≤ a1 then (if a1 < (l0_2.length : Int) then (some (rd_L5 l0_2 a1)) else (none)) else (none)))
set_option maxHeartbeats 8000000 in
set_option maxRecDepth 100000 in
theorem braidworkref19_edges.calls (a0_0 : Int) (A0_1 : Option Addr) (c0_1 : Nat) (l0_1 : List Bool) (P0_2_ : Nat → Prop) (A0_2 : Option Addr) (c0_2 : Nat) (l0_2 : List (List (S40))) (a1 : Int) (r : List (S40)) (w : World) (hr0_1 : Kd.C Kd.bool w A0_1 l0_1.length l0_1) (hc0_1 : l0_1.length ≤ c0_1) (hs0_2 : Kd.V (Kd.slice 40 k40) 38 w w.heap.size (fun k_ => P0_2_ k_) (.slice A0_2 l0_2.length c0_2) l0_2) (h : braidworkref19_edges.f a0_0 l0_1 l0_2 a1 = some r) :
 Calls Try.prog 77 #[.agg #[.int .u64 a0_0, .slice A0_1 l0_1.length c0_1, .slice A0_2 l0_2.length c0_2], .int .i64 a1] w fun e w' => ∃ v0_ : Value, e = .returned (v0_) ∧ Kd.V k40 40 w' w.heap.size (fun k_ => (P0_2_ k_ ∨ w.heap.size ≤ k_)) v0_ r ∧ Below w.heap.size w w' := by
 have hu29 := Try.underlying29
 have HR0_1 := Aside0.mk hr0_1
 have HC0_1 := Aside0.mk hc0_1
 clear hr0_1 hc0_1
 have HO0_2 := Aside0.mk (show Kd.V (Kd.slice 40 k40) 38 w w.heap.size (fun k_ => (P0_2_ k_ ∨ w.heap.size ≤ k_)) (.slice A0_2 l0_2.length c0_2) l0_2 from Kd.V_mono hs0_2 (fun k_ hk => .inl hk))
 have HB := Aside0.mk (Below.refl w.heap.size w)
 have H : (if a1 < 0 then (some ([] : List (S40))) else (if a1 ≥ (l0_2.length : Int) then (some ([] : List (S40))) else (if 0 ≤ a1 then (if a1 < (l0_2.length : Int) then (some (rd_L5 l0_2 a1)) else (none)) else (none)))) = some r := h
 clear h
 by_cases c3 : a1 < 0
 · rw [if_pos c3] at H
   have c3b0 : decide (a1 < 0) = true := decide_eq_true c3
   clear c3
   obtain rfl := Option.some.inj H
   go_enter Try.func77, Try.ntmps77
   go_wp2_with (first | ((with_reducible refine gate_dst (N := 2) rfl ?_); (try (refine gate_guard (by rfl) ?_; dsimp only)); refine box_event ?hg (N := 2) ?hd (cs := #[.int .u64 a0_0, .slice A0_1 l0_1.length c0_1, .slice A0_2 l0_2.length c0_2]) (t := 29) ?hr ?_; (case hd => rfl); (case hg => rfl); (case hr => first | (go_simp; done) | (go_simp; rfl)); intro gb299 hg w4 hbox hb; have n0_ := Aside0.mk (Kd.V_below (Kd.V_elderB (by (with_reducible repeat (first | apply Kd.V_alloc | apply Kd.V_drewN | apply Kd.V_drew)); exact HO0_2.out) gb299 (Nat.le_of_eq hg.symm)) hb); have n1_ := Aside0.mk (below_step (by repeat (first | (with_reducible first | exact HB.out | apply below_alloc | apply pw_below_drewN | apply below_drew1) | exact HB.out)) hb); have n2_ := Aside0.mk (hbox); have n3_ := Aside0.mk ((by rw [hg]; exact (below_size (by repeat (first | (with_reducible first | exact HB.out | apply below_alloc | apply pw_below_drewN | apply below_drew1) | exact HB.out))) : w.heap.size ≤ gb299)); have n4_ := Aside0.mk ((by rw [hg]; exact (below_size (by repeat (first | (with_reducible first | exact HB.out | apply below_alloc | apply pw_below_drewN | apply below_drew1) | exact HB.out))) : w.heap.size ≤ gb299)); clear HO0_2; clear HB; have HO0_2 := n0_; have HB := n1_; have BK299 := n2_; have GW299 := n3_; have GE299 := n4_; clear n0_ n1_ n2_ n3_ n4_; clear hb hbox hg))
   go_ret
   exact ⟨_, by first | rfl | (simp [errW_none, errW_some] <;> rfl) | (simp [*, errW_none, errW_some] <;> rfl), Kd.V_mono (Kd.R_V (base := w.heap.size) (ok := fun k_ => w.heap.size ≤ k_) (Kd.R_nil _ _ _ _ _)) (fun k_ hk => by first | exact ⟨(.inr (hk.1)), hk.2⟩ | exact (.inr (hk))), by repeat (first | (with_reducible first | exact HB.out | apply below_alloc | apply pw_below_drewN | apply below_drew1 | refine below_set ?_ GE299.out) | exact HB.out)⟩
 · rw [if_neg c3] at H
   have c3b0 : decide (a1 < 0) = false := decide_eq_false c3
   clear c3
   by_cases c5 : a1 ≥ (l0_2.length : Int)
   · rw [if_pos c5] at H
     have c5b0 : decide ((l0_2.length : Int) ≤ a1) = true := decide_eq_true c5
     clear c5
     obtain rfl := Option.some.inj H
     go_enter Try.func77, Try.ntmps77
     go_wp2_with (first | ((with_reducible refine gate_dst (N := 2) rfl ?_); (try (refine gate_guard (by rfl) ?_; dsimp only)); refine box_event ?hg (N := 2) ?hd (cs := #[.int .u64 a0_0, .slice A0_1 l0_1.length c0_1, .slice A0_2 l0_2.length c0_2]) (t := 29) ?hr ?_; (case hd => rfl); (case hg => rfl); (case hr => first | (go_simp; done) | (go_simp; rfl)); intro gb299 hg w6 hbox hb; have n0_ := Aside0.mk (Kd.V_below (Kd.V_elderB (by (with_reducible repeat (first | apply Kd.V_alloc | apply Kd.V_drewN | apply Kd.V_drew)); exact HO0_2.out) gb299 (Nat.le_of_eq hg.symm)) hb); have n1_ := Aside0.mk (below_step (by repeat (first | (with_reducible first | exact HB.out | apply below_alloc | apply pw_below_drewN | apply below_drew1) | exact HB.out)) hb); have n2_ := Aside0.mk (hbox); have n3_ := Aside0.mk ((by rw [hg]; exact (below_size (by repeat (first | (with_reducible first | exact HB.out | apply below_alloc | apply pw_below_drewN | apply below_drew1) | exact HB.out))) : w.heap.size ≤ gb299)); have n4_ := Aside0.mk ((by rw [hg]; exact (below_size (by repeat (first | (with_reducible first | exact HB.out | apply below_alloc | apply pw_below_drewN | apply below_drew1) | exact HB.out))) : w.heap.size ≤ gb299)); clear HO0_2; clear HB; have HO0_2 := n0_; have HB := n1_; have BK299 := n2_; have GW299 := n3_; have GE299 := n4_; clear n0_ n1_ n2_ n3_ n4_; clear hb hbox hg; have hcz7_0 : w6.cell? ⟨gb299, 0, none⟩ = some (.int .u64 a0_0) := (blk_cell BK299.out 0).trans rfl; have hcz7_1 : w6.cell? ⟨gb299, 1, none⟩ = some (.slice A0_1 l0_1.length c0_1) := (blk_cell BK299.out 1).trans rfl; have hcz7_2 : w6.cell? ⟨gb299, 2, none⟩ = some (.slice A0_2 l0_2.length c0_2) := (blk_cell BK299.out 2).trans rfl; have hfz7_0 := blk_frozen BK299.out 0; have hfz7_1 := blk_frozen BK299.out 1; have hfz7_2 := blk_frozen BK299.out 2))
     go_ret
     exact ⟨_, by first | rfl | (simp [errW_none, errW_some] <;> rfl) | (simp [*, errW_none, errW_some] <;> rfl), Kd.V_mono (Kd.R_V (base := w.heap.size) (ok := fun k_ => w.heap.size ≤ k_) (Kd.R_nil _ _ _ _ _)) (fun k_ hk => by first | exact ⟨(.inr (hk.1)), hk.2⟩ | exact (.inr (hk))), by repeat (first | (with_reducible first | exact HB.out | apply below_alloc | apply pw_below_drewN | apply below_drew1 | refine below_set ?_ GE299.out) | exact HB.out)⟩
   · rw [if_neg c5] at H
     have c5b0 : decide ((l0_2.length : Int) ≤ a1) = false := decide_eq_false c5
     clear c5
     by_cases c8 : 0 ≤ a1
     · rw [if_pos c8] at H
       have c8b0 : decide (0 ≤ a1) = true := decide_eq_true c8
       clear c8
       by_cases c9 : a1 < (l0_2.length : Int)
       · rw [if_pos c9] at H
         have c9b0 : decide (a1 < (l0_2.length : Int)) = true := decide_eq_true c9
         clear c9
         obtain rfl := Option.some.inj H
         go_enter Try.func77, Try.ntmps77
         go_wp2_with (first | ((with_reducible refine gate_dst (N := 2) rfl ?_); (try (refine gate_guard (by rfl) ?_; dsimp only)); refine box_event ?hg (N := 2) ?hd (cs := #[.int .u64 a0_0, .slice A0_1 l0_1.length c0_1, .slice A0_2 l0_2.length c0_2]) (t := 29) ?hr ?_; (case hd => rfl); (case hg => rfl); (case hr => first | (go_simp; done) | (go_simp; rfl)); intro gb299 hg w10 hbox hb; have n0_ := Aside0.mk (Kd.V_below (Kd.V_elderB (by (with_reducible repeat (first | apply Kd.V_alloc | apply Kd.V_drewN | apply Kd.V_drew)); exact HO0_2.out) gb299 (Nat.le_of_eq hg.symm)) hb); have n1_ := Aside0.mk (below_step (by repeat (first | (with_reducible first | exact HB.out | apply below_alloc | apply pw_below_drewN | apply below_drew1) | exact HB.out)) hb); have n2_ := Aside0.mk (hbox); have n3_ := Aside0.mk ((by rw [hg]; exact (below_size (by repeat (first | (with_reducible first | exact HB.out | apply below_alloc | apply pw_below_drewN | apply below_drew1) | exact HB.out))) : w.heap.size ≤ gb299)); have n4_ := Aside0.mk ((by rw [hg]; exact (below_size (by repeat (first | (with_reducible first | exact HB.out | apply below_alloc | apply pw_below_drewN | apply below_drew1) | exact HB.out))) : w.heap.size ≤ gb299)); clear HO0_2; clear HB; have HO0_2 := n0_; have HB := n1_; have BK299 := n2_; have GW299 := n3_; have GE299 := n4_; clear n0_ n1_ n2_ n3_ n4_; clear hb hbox hg; have hcz11_0 : w10.cell? ⟨gb299, 0, none⟩ = some (.int .u64 a0_0) := (blk_cell BK299.out 0).trans rfl; have hcz11_1 : w10.cell? ⟨gb299, 1, none⟩ = some (.slice A0_1 l0_1.length c0_1) := (blk_cell BK299.out 1).trans rfl; have hcz11_2 : w10.cell? ⟨gb299, 2, none⟩ = some (.slice A0_2 l0_2.length c0_2) := (blk_cell BK299.out 2).trans rfl; have hfz11_0 := blk_frozen BK299.out 0; have hfz11_1 := blk_frozen BK299.out 1; have hfz11_2 := blk_frozen BK299.out 2; have p300 : 0 ≤ (a1 : Int) := of_decide_eq_true (by first | (with_reducible assumption) | assumption); have q300 : a1 < (l0_2.length : Int) := of_decide_eq_true (by first | (with_reducible assumption) | assumption); obtain ⟨ad300, A300_0, c300_0, e300, hx300_0, hl300_0, hi300_0⟩ := at_L5 (Kd.V_reads' HO0_2.out).2.2 a1 p300 q300; cases e300; obtain ⟨ce300, hce300, hMe300, hcc300⟩ := Kd.V_get HO0_2.out [] a1 p300 (by first | exact q300 | exact of_decide_eq_true (by first | (with_reducible assumption) | assumption) | (have e_ := (Kd.V_reads' HO0_2.out).1; omega)); obtain ⟨ua300_0, uc300_0, rfl, ul300_0, ge300_0⟩ := Kd.FK_slice_open hMe300; have hv300_0 := hcc300 0 _ rfl; rw [Nat.add_zero, show ((Kd.slice 40 k40)).sz = 1 from rfl, Nat.mul_one] at hv300_0; replace hv300_0 := Option.some.inj (hv300_0.symm.trans hx300_0); injection hv300_0 with hva_ hvn_ hvc_; rw [hva_] at ge300_0; rw [hvc_] at ul300_0; have HL300_0 := Aside0.mk (show Kd.V k40 40 _ w.heap.size _ _ (rd_L5 l0_2 a1) from Kd.V_mk ul300_0 ge300_0); clear hva_ hvn_ hvc_ ge300_0 ul300_0; clear hcc300 hce300; have HR300_0 := Aside0.mk hi300_0; have HC300_0 := Aside0.mk hl300_0; clear hi300_0 hl300_0; replace p300 := eq_true p300; replace q300 := eq_true q300))
         go_ret
         exact ⟨_, by first | rfl | (simp [errW_none, errW_some] <;> rfl) | (simp [*, errW_none, errW_some] <;> rfl), by (with_reducible repeat (first | apply Kd.V_alloc | apply Kd.V_drewN | apply Kd.V_drew)); exact Kd.V_mono HL300_0.out (fun _ hk => hk.1), by repeat (first | (with_reducible first | exact HB.out | apply below_alloc | apply pw_below_drewN | apply below_drew1 | refine below_set ?_ GE299.out) | exact HB.out)⟩
       · rw [if_neg c9] at H
         exact absurd H (by simp)
     · rw [if_neg c8] at H
       exact absurd H (by simp)
end Go.Proofs.Ytkkfpmgmicfkfaa.X
