/-
  Where code may go on: what functions of the program do, step by step. Printed by program.
-/
import Derived.Test.YtppkkgicidagmabGreatDoorGab
import Derived.RangeFuncBox
import Derived.RangeFuncNested
import Derived.RangeFuncLeaves
import Derived.Shelf.Abstract
import Derived.Shelf.RegionOpen
import Derived.WalkKit
import Derived.OwnWalkIn
import Derived.TacticsInMore
import Derived.LoopNIn
import Derived.LoopIn
import Derived.Maps.OwnIn
import Derived.Maps.AppendAt
import Derived.Maps.RangeWalk
import Derived.Deep.OwnRows
import Derived.Laws.EntriesVeiled
import Derived.Deep.RegionHeld3
import Derived.Deep.RegionLaw
import Derived.Deep.AppendLies
import Derived.Test.YtppkkgicidagmabGreatDoorGp3
set_option linter.unusedVariables false
set_option linter.unusedSimpArgs false
namespace Go.Proofs.YtppkkgicidagmabGreatDoor
section
open Go.RowKit Go.Shelf Go.Eng
attribute [local go_sem] Oper.semAt_some
theorem wrapU {x : Nat} (h : x < 2 ^ 64) : IntKind.u64.wrap (x : Int) = x := by
  have : (x : Int) % 18446744073709551616 = x := by omega
  simpa [IntKind.wrap, IntKind.bits, IntKind.signed] using this
theorem bitsAnd {a b : Nat} (ha : a < 2 ^ 64) (hb : b < 2 ^ 64) : bits .and .u64 (a : Int) (b : Int) = ((a &&& b : Nat) : Int) := by
  have h : (BitVec.ofInt 64 (a : Int) &&& BitVec.ofInt 64 (b : Int)).toNat = a &&& b := by
    simp [BitVec.toNat_and, BitVec.toNat_ofNat, Nat.mod_eq_of_lt ha, Nat.mod_eq_of_lt hb]
  exact (congrArg (fun n : Nat => IntKind.u64.wrap (n : Int)) h).trans (wrapU (Nat.and_lt_two_pow a hb))
theorem bitsOr {a b : Nat} (ha : a < 2 ^ 64) (hb : b < 2 ^ 64) : bits .or .u64 (a : Int) (b : Int) = ((a ||| b : Nat) : Int) := by
  have h : (BitVec.ofInt 64 (a : Int) ||| BitVec.ofInt 64 (b : Int)).toNat = a ||| b := by
    simp [BitVec.toNat_or, BitVec.toNat_ofNat, Nat.mod_eq_of_lt ha, Nat.mod_eq_of_lt hb]
  exact (congrArg (fun n : Nat => IntKind.u64.wrap (n : Int)) h).trans (wrapU (Nat.or_lt_two_pow ha hb))
theorem low63 {p : Nat} (h : p < 64) : bits .and .i64 (p : Int) 63 = (p : Int) := by
  have : ∀ p : Fin 64, bits .and .i64 (p.1 : Int) 63 = (p.1 : Int) := by decide
  exact this ⟨p, h⟩
/-- a block of one word -/
def Wd (W : World) (B x : Nat) : Prop := W.heap[B]? = some (.cells #[.int .u64 (x : Nat)] 101 (0, 0)) ∧ x < 2 ^ 64
theorem Wd.cell {W : World} {B x : Nat} (h : Wd W B x) : W.cell? ⟨B, 0, none⟩ = some (.int .u64 (x : Nat)) := by simp [World.cell?, h.1]
theorem Wd.lt {W : World} {B x : Nat} (h : Wd W B x) : B < W.heap.size := (Array.getElem?_eq_some_iff.1 h.1).1
theorem Wd.soft {W : World} {B x : Nat} (h : Wd W B x) : W.frozen? ⟨B, 0, none⟩ = false := by simp [World.frozen?, h.1]
theorem Wd.kept {W W' : World} {row : Option Nat} {B x : Nat} (h : Wd W B x) (hg : W.grownBy W' row) (hne : some B ≠ row) : Wd W' B x := ⟨(hg.block B h.lt hne).trans h.1, h.2⟩
theorem Wd.set {W : World} {B x y : Nat} (h : Wd W B x) (hy : y < 2 ^ 64) : Wd (W.setCell ⟨B, 0, none⟩ (.int .u64 (y : Nat))) B y := by
  refine ⟨?_, hy⟩
  show (W.heap.modify B _)[B]? = _
  rw [Array.getElem?_modify, if_pos rfl, h.1]
  rfl
theorem Wd.grew {W : World} {B x : Nat} (h : Wd W B x) (v : Value) : W.grownBy (W.setCell ⟨B, 0, none⟩ v) (some B) := by
  refine ⟨rfl, rfl, rfl, by simp [World.setCell], fun k hk hne => ?_⟩
  have : B ≠ k := fun e => hne (by rw [e])
  simp [World.setCell, Array.getElem?_modify, this]
theorem two_lt {p : Nat} (h : p < 64) : 2 ^ p < 2 ^ 64 := Nat.pow_lt_pow_right (by omega) h
theorem bit_says (x p : Nat) : ((x : Int) / 2 ^ p % 2 == 1) = x.testBit p := by
  have e2 : (x : Int) / 2 ^ p % 2 = ((x / 2 ^ p % 2 : Nat) : Int) := by simp
  rw [Nat.testBit_eq_decide_div_mod_eq, e2]
  by_cases h : x / 2 ^ p % 2 = 1
  · rw [h]; rfl
  · have : x / 2 ^ p % 2 = 0 := by omega
    rw [this]; rfl
set_option maxRecDepth 100000 in
set_option maxHeartbeats 1000000 in
theorem has_ok (B c p x : Nat) (w : World) (h : Wd w B x) (hp : p < 64) : Calls Tryz.prog 33 #[.slice (some ⟨B, 0, none⟩) 1 c, .int .i64 p] w fun e w' => e = .returned (.bool (x.testBit p)) ∧ w' = w := by
  have c0 := h.cell
  have hd : p / 64 = 0 := Nat.div_eq_of_lt hp
  have hl := low63 hp
  have hw := wrapU (Nat.lt_trans hp (by decide : (64 : Nat) < 2 ^ 64))
  have hm : min p 64 = p := Nat.min_eq_left (Nat.le_of_lt hp)
  have hs := bit_says x p
  have hb : bits .and .u64 ((x : Int) / 2 ^ p) 1 = (x : Int) / 2 ^ p % 2 := by
    have e2 : (x : Int) / 2 ^ p = ((x / 2 ^ p : Nat) : Int) := by simp
    rw [e2]
    have := bitsAnd (a := x / 2 ^ p) (b := 1) (Nat.lt_of_le_of_lt (Nat.div_le_self _ _) h.2) (by decide)
    rw [Nat.and_one_is_mod] at this
    exact this
  go_enter Tryz.func33, Tryz.ntmps33
  go_wp2
  go_ret
  exact ⟨by rw [← hs]; rfl, rfl⟩
set_option maxRecDepth 100000 in
set_option maxHeartbeats 1000000 in
theorem put_ok (B c p x : Nat) (w : World) (h : Wd w B x) (hp : p < 64) : Calls Tryz.prog 49 #[.slice (some ⟨B, 0, none⟩) 1 c, .int .i64 p] w fun e w' => (∃ v, e = .returned v) ∧ Wd w' B (x ||| 2 ^ p) ∧ w.grownBy w' (some B) := by
  have c0 := h.cell
  have hd : p / 64 = 0 := Nat.div_eq_of_lt hp
  have hl := low63 hp
  have hw := wrapU (Nat.lt_trans hp (by decide : (64 : Nat) < 2 ^ 64))
  have hm : min p 64 = p := Nat.min_eq_left (Nat.le_of_lt hp)
  have hw2 := wrapU (two_lt hp)
  have e2 : ((2 ^ p : Nat) : Int) = 2 ^ p := by simp
  rw [e2] at hw2
  have hb := bitsOr (a := x) (b := 2 ^ p) h.2 (two_lt hp)
  rw [e2] at hb
  have hf := h.soft
  go_enter Tryz.func49, Tryz.ntmps49
  go_wp2
  go_end0
  exact ⟨⟨_, rfl⟩, h.set (Nat.or_lt_two_pow h.2 (two_lt hp)), h.grew _⟩
set_option maxRecDepth 100000 in
set_option maxHeartbeats 1000000 in
theorem none_ok (n : Nat) (w : World) (hn : n ≤ 1000) : Calls Tryz.prog 47 #[.int .i64 n] w fun e w' => e = .returned (.slice (some ⟨w.heap.size, 0, none⟩) ((n + 63) / 64) ((n + 63) / 64)) ∧ w' = w.alloc (.cells (madeCells #[.int .u64 0] ((n + 63) / 64)) 101) := by
  have hmk := run_make_row' (P := Tryz.prog) 84 101 (.int .u64 0) 8 (by kernel_rfl) (by kernel_rfl) rfl .i64 .i64 ((n + 63) / 64) (by omega) (by omega)
  have e : (((n + 63) / 64 : Nat) : Int) = ((n : Int) + 63) / 64 := by omega
  rw [e] at hmk
  go_enter Tryz.func47, Tryz.ntmps47
  go_wp2
  go_ret
  exact ⟨rfl, rfl⟩
set_option maxRecDepth 100000 in
set_option maxHeartbeats 1000000 in
theorem free_ok (v : Value) (w : World) : Calls Tryz.prog 32 #[v] w fun e w' => e = .returned (.bool false) ∧ w' = w := by
  go_enter Tryz.func32, Tryz.ntmps32
  go_wp2
  go_ret
  exact ⟨rfl, rfl⟩
theorem cellLt {w : World} {a : Addr} {v : Value} (h : w.cell? a = some v) : a.block < w.heap.size := by
  rcases Nat.lt_or_ge a.block w.heap.size with h1 | h1
  · exact h1
  · unfold World.cell? at h
    rw [Array.getElem?_eq_none h1] at h
    simp at h
theorem cellKept {w w' : World} {row : Option Nat} {a : Addr} {v : Value} (hg : w.grownBy w' row) (h : w.cell? a = some v) (hne : some a.block ≠ row) : w'.cell? a = some v := by
  have := hg.block a.block (cellLt h) hne
  unfold World.cell? at h ⊢
  rw [this]; exact h
/-- rows of places -/
def Rws (W : World) (B : Nat) (R : Addr) (n : Nat) (nx : Nat → List Nat) : Prop :=
  R.block ≠ B ∧ ∀ p, p < n → ∃ oa c, W.cell? (R.add p) = some (.slice oa (nx p).length c) ∧ ∀ j q, (nx p)[j]? = some q → ∃ a, oa = some a ∧ a.block ≠ B ∧ W.cell? (a.add j) = some (.int .i64 (q : Nat))
theorem addBlock (a : Addr) (k : Nat) : (a.add k).block = a.block := by unfold Addr.add; split <;> rfl
theorem Rws.kept {W W' : World} {B : Nat} {R : Addr} {n : Nat} {nx : Nat → List Nat} (h : Rws W B R n nx) (hg : W.grownBy W' (some B)) : Rws W' B R n nx := by
  refine ⟨h.1, fun p hp => ?_⟩
  obtain ⟨oa, c, h1, h2⟩ := h.2 p hp
  refine ⟨oa, c, cellKept hg h1 (by rw [addBlock]; intro e; exact h.1 (Option.some.inj e)), fun j q hj => ?_⟩
  obtain ⟨a, e, hb, hc⟩ := h2 j q hj
  exact ⟨a, e, hb, cellKept hg hc (by rw [addBlock]; intro e; exact hb (Option.some.inj e))⟩
def ptr (b : Nat) : Value := .pointer (some ⟨b, 0, none⟩)
/-- what a walk in depth leans on -/
structure Sp (W : World) (B b1 b2 b3 b4 : Nat) (fb : Nat) (caps : Array Value) (R : Addr) (cR n : Nat) (nx : Nat → List Nat) (br : Nat → Bool) : Prop where
  s : Boxed W b1 84 (.slice (some ⟨B, 0, none⟩) 1 1)
  bar : Boxed W b2 90 (.func (.func fb) #[] caps)
  rows : Boxed W b3 86 (.slice (some R) n cR)
  come : Boxed W b4 92 (.func (.func 48) #[] #[ptr b1, ptr b2, ptr b3, ptr b4])
  at_ : Rws W B R n nx
  ne : b1 ≠ B ∧ b2 ≠ B ∧ b3 ≠ B ∧ b4 ≠ B
  eg : ∀ args w, (callFunc fb args).run Tryz.prog w = .ok (.enter fb args) w
  calls : ∀ W', W.grownBy W' (some B) → ∀ q, q < n → Calls Tryz.prog fb (#[.int .i64 (q : Nat)] ++ caps) W' fun e w' => e = .returned (.bool (br q)) ∧ w' = W'
theorem Sp.kept {W W' : World} {B b1 b2 b3 b4 fb : Nat} {caps : Array Value} {R : Addr} {cR n : Nat} {nx : Nat → List Nat} {br : Nat → Bool} (h : Sp W B b1 b2 b3 b4 fb caps R cR n nx br) (hg : W.grownBy W' (some B)) : Sp W' B b1 b2 b3 b4 fb caps R cR n nx br :=
  ⟨h.s.kept hg (fun e => h.ne.1 (Option.some.inj e)), h.bar.kept hg (fun e => h.ne.2.1 (Option.some.inj e)), h.rows.kept hg (fun e => h.ne.2.2.1 (Option.some.inj e)), h.come.kept hg (fun e => h.ne.2.2.2 (Option.some.inj e)), h.at_.kept hg, h.ne, h.eg, fun W2 hg2 q hq => h.calls W2 (hg.trans hg2) q hq⟩
def unseen (n x : Nat) : Nat := ((List.range n).filter fun q => !x.testBit q).length
theorem unseen_le {n x y : Nat} (h : ∀ q, x.testBit q = true → y.testBit q = true) : unseen n y ≤ unseen n x := by
  unfold unseen
  simp only [← List.countP_eq_length_filter]
  refine List.countP_mono_left fun q _ => ?_
  have := h q
  cases hx : x.testBit q <;> cases hy : y.testBit q <;> simp_all
theorem unseen_lt {n x p : Nat} (hp : p < n) (hx : x.testBit p = false) : unseen n (x ||| 2 ^ p) < unseen n x := by
  unfold unseen
  obtain ⟨l1, l2, e⟩ := List.append_of_mem (List.mem_range.2 hp)
  have hmono : ∀ l : List Nat, (l.filter fun q => !(x ||| 2 ^ p).testBit q).length ≤ (l.filter fun q => !x.testBit q).length := fun l => by
    simp only [← List.countP_eq_length_filter]
    refine List.countP_mono_left fun q _ => ?_
    simp only [Nat.testBit_or, Bool.not_eq_true', Bool.or_eq_false_iff]
    exact fun h => h.1
  rw [e]
  simp only [List.filter_append, List.length_append, List.filter_cons, hx, Nat.testBit_or, Nat.testBit_two_pow_self, Bool.or_true, Bool.not_true, Bool.not_false, if_true, List.length_cons, Bool.false_eq_true, if_false]
  have h1 := hmono l1
  have h2 := hmono l2
  simp only [Nat.testBit_or] at h1 h2
  omega
set_option maxRecDepth 100000 in
set_option maxHeartbeats 1000000 in
theorem come_ok {B b1 b2 b3 b4 fb : Nat} {caps : Array Value} {R : Addr} {cR n : Nat} {nx : Nat → List Nat} {br : Nat → Bool} (hn : n ≤ 64) (hnx : ∀ p, ∀ q ∈ nx p, q < n) (hnl : ∀ p, (nx p).length ≤ 1000) :
    ∀ (k : Nat) (w : World) (x p : Nat), unseen n x < k → p < n → Wd w B x → Sp w B b1 b2 b3 b4 fb caps R cR n nx br →
    Calls Tryz.prog 48 #[.int .i64 (p : Nat), ptr b1, ptr b2, ptr b3, ptr b4] w fun e w' => (∃ v, e = .returned v) ∧ ∃ x', Wd w' B x' ∧ w.grownBy w' (some B) ∧ Come nx (fun q => br q = true) p (fun q => x.testBit q = true) (fun q => x'.testBit q = true) := by
  intro k
  induction k with
  | zero => intro w x p h; omega
  | succ k ih =>
    intro w x p hk hp hW hS
    have c1 := hS.s.cell
    have c2 := hS.bar.cell
    have c3 := hS.rows.cell
    have c4 := hS.come.cell
    have eg := hS.eg
    have hb := hS.calls w ⟨rfl, rfl, rfl, Nat.le_refl _, fun _ _ _ => rfl⟩ p hp
    unfold ptr
    go_enter Tryz.func48, Tryz.ntmps48
    by_cases hx : x.testBit p = true
    · go_wp2_with (go_at_call 33; refine (has_ok B 1 p x _ hW (by omega)).mono ?_; rintro e w' ⟨rfl, rfl⟩; rw [hx])
      refine bodyPost_ret (results_none rfl _ _ _) rfl ?_
      exact ⟨⟨_, rfl⟩, x, hW, ⟨rfl, rfl, rfl, Nat.le_refl _, fun _ _ _ => rfl⟩, Come.skip (.inl hx)⟩
    · have hx : x.testBit p = false := by simpa using hx
      go_wp2_with (first
       | (go_at_call 33; refine (has_ok B 1 p x _ hW (by omega)).mono ?_; rintro e w' ⟨rfl, rfl⟩; rw [hx]))
      refine hb.mono ?_
      rintro e w1 ⟨rfl, rfl⟩
      cases hbr : br p with
      | true =>
        go_wp2
        refine bodyPost_ret (results_none rfl _ _ _) rfl ?_
        exact ⟨⟨_, rfl⟩, x, hW, ⟨rfl, rfl, rfl, Nat.le_refl _, fun _ _ _ => rfl⟩, Come.skip (.inr hbr)⟩
      | false =>
        obtain ⟨oa, cr, hr0, hrj⟩ := hS.at_.2 p hp
        have hl := hnl p
        go_wp2_with (first
          | (go_at_call 49; refine (put_ok B 1 p x _ hW (by omega)).mono ?_; rintro e w2 ⟨⟨v, rfl⟩, hW2, hg2⟩; have hS2 := hS.kept hg2; have c3' := hS2.rows.cell; have c4' := hS2.come.cell; have hr0' := cellKept hg2 hr0 (by rw [addBlock]; intro e; exact hS.at_.1 (Option.some.inj e)))
          | fail)
        go_loopw [24] (fun v wr => ∃ (i y : Nat), v = .int .i64 (i : Nat) ∧ i ≤ (nx p).length ∧ Wd wr B y ∧ w1.grownBy wr (some B) ∧ ComeL nx (fun q => br q = true) p (fun q => x.testBit q = true) (fun q => y.testBit q = true) i) (fun v _ => (nx p).length - (intOf v).toNat)
        case atStart =>
          refine ⟨0, _, rfl, Nat.zero_le _, hW2, hg2, ?_⟩
          have h0 := ComeL.start (nx := nx) (bar := fun q => br q = true) (S := fun q => x.testBit q = true) (p := p) (by simp [hbr])
          have e : (fun q => x.testBit q = true ∨ q = p) = fun q => (x ||| 2 ^ p).testBit q = true := by
            funext q
            rw [Nat.testBit_or, Nat.testBit_two_pow]
            simp only [Bool.or_eq_true, decide_eq_true_eq]
            exact propext (or_congr Iff.rfl ⟨Eq.symm, Eq.symm⟩)
          rwa [e] at h0
        case round =>
          obtain ⟨i, y, rfl, hi, hWr, hgr, hL⟩ := hrel
          have hSr := hS.kept hgr
          have d4 := hSr.come.cell
          by_cases hlt : i < (nx p).length
          · obtain ⟨a, rfl, hab, hac⟩ := hrj i _ (List.getElem?_eq_getElem hlt)
            have hac' := cellKept hgr hac (by rw [addBlock]; intro e; exact hab (Option.some.inj e))
            have hun : unseen n y < k := Nat.lt_of_le_of_lt (unseen_le (x := x ||| 2 ^ p) fun q hq => by
              rw [Nat.testBit_or, Nat.testBit_two_pow] at hq
              simp at hq
              rcases hq with hq | rfl
              · exact hL.sub q hq
              · exact hL.at_) (Nat.lt_of_lt_of_le (unseen_lt hp hx) (by omega))
            have hc := ih _ y _ hun (hnx p _ (List.getElem_mem hlt)) hWr hSr
            unfold ptr at d4
            go_wp2_with (first
              | (go_at_call 48; refine hc.mono ?_; rintro e w3 ⟨⟨v3, rfl⟩, y3, hW3, hg3, hC3⟩)
              | fail)
            go_roundw
            case rel => exact ⟨i + 1, y3, by simp, hlt, hW3, hgr.trans hg3, hL.next (List.getElem?_eq_getElem hlt) hC3 (by simp [hbr])⟩
            case measure =>
              show (nx p).length - (intOf (Value.int .i64 ((i + 1 : Nat) : Int))).toNat < (nx p).length - (intOf (Value.int .i64 (i : Nat))).toNat
              simp only [intOf, Int.toNat_natCast]
              omega
          · go_wp2
            go_end0
            exact ⟨⟨_, rfl⟩, y, hWr, hgr, hL.fin (by omega)⟩
theorem made1 : madeCells #[Value.int .u64 0] 1 = #[Value.int .u64 0] := by
  unfold madeCells
  rw [show Array.range 1 = #[0] from by decide]
  simp
def Rws0 (W : World) (R : Addr) (n : Nat) (nx : Nat → List Nat) : Prop :=
  ∀ p, p < n → ∃ oa c, W.cell? (R.add p) = some (.slice oa (nx p).length c) ∧ ∀ j q, (nx p)[j]? = some q → ∃ a, oa = some a ∧ W.cell? (a.add j) = some (.int .i64 (q : Nat))
theorem Rws0.kept {W W' : World} {R : Addr} {n : Nat} {nx : Nat → List Nat} (h : Rws0 W R n nx) (hb : Below W.heap.size W W') : Rws0 W' R n nx := fun p hp => by
  obtain ⟨oa, c, h1, h2⟩ := h p hp
  refine ⟨oa, c, (hb.cell (cellLt h1)).trans h1, fun j q hj => ?_⟩
  obtain ⟨a, e, hc⟩ := h2 j q hj
  exact ⟨a, e, (hb.cell (cellLt hc)).trans hc⟩
theorem Rws0.at_ {W : World} {B : Nat} {R : Addr} {n : Nat} {nx : Nat → List Nat} {W0 : World} (h : Rws0 W0 R n nx) (hn : 0 < n) (hb : Below W0.heap.size W0 W) (hB : W0.heap.size ≤ B) : Rws W B R n nx := by
  have hk := h.kept hb
  refine ⟨fun e => ?_, fun p hp => ?_⟩
  · obtain ⟨oa, c, h1, _⟩ := h 0 hn
    have := cellLt h1
    rw [addBlock] at this; omega
  · obtain ⟨oa, c, h1, h2⟩ := hk p hp
    obtain ⟨oa', c', g1, g2⟩ := h p hp
    have := (hb.cell (cellLt g1)).trans g1
    rw [h1] at this
    cases this
    refine ⟨oa, c, h1, fun j q hj => ?_⟩
    obtain ⟨a, e, hc⟩ := g2 j q hj
    have := cellLt hc
    rw [addBlock] at this
    exact ⟨a, e, by omega, (hb.cell (cellLt hc)).trans hc⟩
/-- a new set: its places are those of S -/
def SpR (w w' : World) (B : Nat) (S : Nat → Prop) : Prop := ∃ x, Wd w' B x ∧ w.heap.size ≤ B ∧ Below w.heap.size w w' ∧ ∀ q, x.testBit q = true ↔ S q
set_option maxRecDepth 100000 in
set_option maxHeartbeats 1000000 in
theorem spread_ok {fb : Nat} {caps : Array Value} {R : Addr} {cR n : Nat} {nx : Nat → List Nat} {br : Nat → Bool} (hn : n ≤ 64) (hn0 : 0 < n) (hnx : ∀ p, ∀ q ∈ nx p, q < n) (hnl : ∀ p, (nx p).length ≤ 1000) (pc : Int) (hpc : -9223372036854775808 ≤ pc ∧ pc ≤ 9223372036854775807) (w : World) (hR : Rws0 w R n nx)
    (eg : ∀ args w, (callFunc fb args).run Tryz.prog w = .ok (.enter fb args) w)
    (hb : ∀ W', Below w.heap.size w W' → ∀ q, q < n → Calls Tryz.prog fb (#[.int .i64 (q : Nat)] ++ caps) W' fun e w' => e = .returned (.bool (br q)) ∧ w' = W') :
    Calls Tryz.prog 30 #[.slice (some R) n cR, .int .i64 pc, .func (.func fb) #[] caps] w fun e w' => ∃ B, e = .returned (.slice (some ⟨B, 0, none⟩) 1 1) ∧ SpR w w' B fun q => 0 ≤ pc ∧ pc < n ∧ Eng.Way nx (fun q => br q = true) pc.toNat q := by
  have hd : (n + 63) / 64 = 1 := by omega
  let o1 : Obj := .cells #[.slice (some R) n cR] 86
  let o2 : Obj := .cells #[.func (.func fb) #[] caps] 90
  let o3 : Obj := .cells (madeCells #[.int .u64 0] 1) 101
  let o4 : Obj := .cells #[.slice (some ⟨w.heap.size + 1 + 1, 0, none⟩) 1 1] 84
  let vf : Value := .func (.func 48) #[] #[.pointer (some ⟨w.heap.size + 1 + 1 + 1, 0, none⟩), .pointer (some ⟨w.heap.size + 1, 0, none⟩), .pointer (some ⟨w.heap.size, 0, none⟩), .pointer (some ⟨w.heap.size + 1 + 1 + 1 + 1, 0, none⟩)]
  let o5 : Obj := .cells #[vf] 92
  have b5 := Boxed.new ((((w.alloc o1).alloc o2).alloc o3).alloc o4) 92 vf
  have b4 := (Boxed.new (((w.alloc o1).alloc o2).alloc o3) 84 (.slice (some ⟨w.heap.size + 1 + 1, 0, none⟩) 1 1)).alloc o5
  have b2 := (((Boxed.new (w.alloc o1) 90 (.func (.func fb) #[] caps)).alloc o3).alloc o4).alloc o5
  have b1 := ((((Boxed.new w 86 (.slice (some R) n cR)).alloc o2).alloc o3).alloc o4).alloc o5
  have hB : Below w.heap.size w (((((w.alloc o1).alloc o2).alloc o3).alloc o4).alloc o5) := ((((((Below.refl _ w).alloc (Nat.le_refl _) o1).alloc (by simp) o2).alloc (by simp; omega) o3).alloc (by simp; omega) o4).alloc (by simp; omega) o5)
  have hw : Wd (((((w.alloc o1).alloc o2).alloc o3).alloc o4).alloc o5) (w.heap.size + 1 + 1) 0 := by
    have h := (((World.alloc_heap_new ((w.alloc o1).alloc o2) o3)))
    rw [World.size_alloc, World.size_alloc] at h
    refine ⟨?_, by decide⟩
    refine (Below.heap_alloc _ _ _ (by simp)).trans ((Below.heap_alloc _ _ _ (by simp)).trans ?_)
    exact h.trans (congrArg some (congrArg (fun c => Obj.cells c 101) made1))
  rw [World.size_alloc, World.size_alloc, World.size_alloc, World.size_alloc] at b5
  rw [World.size_alloc, World.size_alloc, World.size_alloc] at b4
  rw [World.size_alloc] at b2
  have c1 := b1.cell
  have c2 := b2.cell
  have c4 := b4.cell
  have c5 := b5.cell
  have hSp : Sp _ (w.heap.size + 1 + 1) (w.heap.size + 1 + 1 + 1) (w.heap.size + 1) w.heap.size (w.heap.size + 1 + 1 + 1 + 1) fb caps R cR n nx br := ⟨b4, b2, b1, b5, hR.at_ hn0 hB (by omega), ⟨by omega, by omega, by omega, by omega⟩, eg, fun W' hg q hq => hb W' (hB.grown hg hB.size (fun k hk => by cases hk; omega)) q hq⟩
  have hcome := fun p hp => come_ok hn hnx hnl _ _ 0 p (Nat.lt_succ_self _) hp hw hSp
  unfold ptr at hcome
  clear b1 b2 b4 b5 eg hb
  dsimp only [o1, o2, o3, o4, o5, vf] at *
  clear o1 o2 o3 o4 o5 vf
  by_cases h0 : 0 ≤ pc
  · by_cases h1 : pc < n
    · obtain ⟨p, rfl⟩ := Int.eq_ofNat_of_zero_le h0
      have hc := hcome p (by omega)
      clear hcome
      have A : Hid (Sp _ _ _ _ _ _ _ _ _ _ _ _ _) := hSp
      clear hSp
      go_enter Tryz.func30, Tryz.ntmps30
      go_wp2_with (first
        | (go_at_call 47; refine (none_ok n _ (by omega)).mono ?_; rintro e w2 ⟨rfl, rfl⟩; rw [hd])
        | (go_at_call 48; refine hc.mono ?_; rintro e w3 ⟨⟨v3, rfl⟩, x, hW3, hg3, hC⟩; have c4' := (A.out.s.kept hg3 (fun e => A.out.ne.1 (Option.some.inj e))).cell)
        | fail)
      have D : Hid (Below w.heap.size w w3) := hB.grown hg3 hB.size (fun k hk => by cases hk; omega)
      go_ret
      refine ⟨_, rfl, x, hW3, by omega, D.out, fun q => ?_⟩
      have hz : (fun q => Nat.testBit 0 q = true) = fun _ => False := by funext q; simp
      rw [hz] at hC
      rw [hC.all]
      simp
      omega
    · have hx : Hid (∀ q : Nat, Nat.testBit 0 q = true ↔ (0 ≤ pc ∧ pc < n ∧ Eng.Way nx (fun q => br q = true) pc.toNat q)) := fun q => ⟨fun h => by simp at h, fun h => absurd h.2.1 h1⟩
      clear hcome
      have A : Hid (Wd _ _ _ ∧ Below _ _ _) := ⟨hw, hB⟩
      clear hSp hw hB
      go_enter Tryz.func30, Tryz.ntmps30
      go_wp2_with (first
        | (go_at_call 47; refine (none_ok n _ (by omega)).mono ?_; rintro e w2 ⟨rfl, rfl⟩; rw [hd])
        | fail)
      go_ret
      exact ⟨_, rfl, 0, A.out.1, by omega, A.out.2, hx.out⟩
  · have hx : Hid (∀ q : Nat, Nat.testBit 0 q = true ↔ (0 ≤ pc ∧ pc < n ∧ Eng.Way nx (fun q => br q = true) pc.toNat q)) := fun q => ⟨fun h => by simp at h, fun h => absurd h.1 h0⟩
    clear hcome
    have A : Hid (Wd _ _ _ ∧ Below _ _ _) := ⟨hw, hB⟩
    clear hSp hw hB
    go_enter Tryz.func30, Tryz.ntmps30
    go_wp2_with (first
      | (go_at_call 47; refine (none_ok n _ (by omega)).mono ?_; rintro e w2 ⟨rfl, rfl⟩; rw [hd])
      | fail)
    go_ret
    exact ⟨_, rfl, 0, A.out.1, by omega, A.out.2, hx.out⟩
def rowI (l : List Nat) : List Value := l.map fun q => .int .i64 (q : Nat)
/-- an own row of places, whatever its block's mark -/
def OwnW (W : World) (base : Nat) (v : Value) (l : List Nat) : Prop :=
  (v = .slice none 0 0 ∧ l = []) ∨ ∃ (g cap : Nat) (cur : Array Value) (mk : Nat × Nat), v = .slice (some ⟨g, 0, none⟩) l.length cap ∧ base ≤ g ∧ W.heap[g]? = some (.cells cur 3 mk) ∧ ∀ (j q : Nat), l[j]? = some q → cur[j]? = some (Value.int .i64 (q : Nat))
theorem OwnW.nil (W : World) (base : Nat) : OwnW W base (.slice none 0 0) [] := .inl ⟨rfl, rfl⟩
theorem OwnW.kept {W W' : World} {base : Nat} {v : Value} {l : List Nat} {row : Option Nat} (h : OwnW W base v l) (hg : W.grownBy W' row) (hne : v.ownBlock = none ∨ v.ownBlock ≠ row) : OwnW W' base v l := by
  rcases h with h | ⟨g, cap, cur, mk, rfl, hb, hc, hl⟩
  · exact .inl h
  · refine .inr ⟨g, cap, cur, mk, rfl, hb, (hg.block g (Array.getElem?_eq_some_iff.1 hc).1 ?_).trans hc, hl⟩
    rcases hne with e | e
    · simp [Value.ownBlock] at e
    · simpa [Value.ownBlock] using e
theorem OwnW.weak {W : World} {base base' : Nat} {v : Value} {l : List Nat} (h : OwnW W base v l) (hb : base' ≤ base) : OwnW W base' v l := by
  rcases h with h | ⟨g, cap, cur, mk, e, hg, r⟩
  · exact .inl h
  · exact .inr ⟨g, cap, cur, mk, e, Nat.le_trans hb hg, r⟩
theorem OwnW.lt {W : World} {base g : Nat} {v : Value} {l : List Nat} (h : OwnW W base v l) (e : v.ownBlock = some g) : base ≤ g ∧ g < W.heap.size := by
  rcases h with ⟨rfl, _⟩ | ⟨g', cap, cur, mk, rfl, hb, hg, _⟩
  · simp [Value.ownBlock] at e
  · simp [Value.ownBlock] at e
    subst e
    exact ⟨hb, (Array.getElem?_eq_some_iff.1 hg).1⟩
theorem OwnW.blk {W : World} {base b : Nat} {v : Value} {l : List Nat} {C : Array Value} {t : TypeId} (h : OwnW W base v l) (hb : W.heap[b]? = some (.cells C t (0, 0))) (ht : t ≠ 3) : some b ≠ v.ownBlock := by
  rcases h with ⟨rfl, _⟩ | ⟨g, cap, cur, mk, rfl, _, hg, _⟩
  · simp [Value.ownBlock]
  · intro e
    simp [Value.ownBlock] at e
    subst e
    rw [hb] at hg
    cases hg
    exact ht rfl
theorem OwnW.form {W : World} {base : Nat} {v : Value} {l : List Nat} (h : OwnW W base v l) : ∃ oa c, v = .slice oa l.length c ∧ ∀ j u, (rowI l)[j]? = some u → ∃ a : Addr, oa = some a ∧ base ≤ a.block ∧ W.cell? (a.add j) = some u := by
  rcases h with ⟨rfl, rfl⟩ | ⟨g, cap, cur, mk, rfl, hb, hg, hl⟩
  · exact ⟨none, 0, rfl, fun j u hj => by simp [rowI] at hj⟩
  · refine ⟨_, cap, rfl, fun j u hj => ⟨_, rfl, hb, ?_⟩⟩
    unfold rowI at hj
    rw [List.getElem?_map] at hj
    cases hq : l[j]? with
    | none => rw [hq] at hj; simp at hj
    | some q =>
      rw [hq] at hj
      simp only [Option.map_some, Option.some.injEq] at hj
      subst hj
      have ha : (⟨g, 0, none⟩ : Addr).add j = ⟨g, j, none⟩ := by unfold Addr.add; split <;> simp_all
      rw [ha]
      simp [World.cell?, hg, hl j q hq]
/-- the web in the making -/
structure Wv (w W : World) (b3 BN BB n : Nat) (vN vB : Nat → Value) (fN fB : Nat → List Nat) : Prop where
  web : W.heap[b3]? = some (.cells #[.slice (some ⟨BN, 0, none⟩) n n, .slice (some ⟨BB, 0, none⟩) n n] 88 (0, 0))
  nxt : W.rowIs BN 91 n vN
  bck : W.rowIs BB 91 n vB
  ownN : ∀ p, p < n → OwnW W w.heap.size (vN p) (fN p)
  ownB : ∀ p, p < n → W.ownsRow w.heap.size 3 1 (vB p) (fB p).length (rowI (fB p))
  ap1 : ∀ q p, q < n → p < n → (vB q).ownBlock = none ∨ (vB q).ownBlock ≠ (vN p).ownBlock
  ap2 : ∀ q p, q < n → p < n → q ≠ p → (vB q).ownBlock = none ∨ (vB q).ownBlock ≠ (vB p).ownBlock
  ne : BN ≠ BB ∧ w.heap.size ≤ BN ∧ w.heap.size ≤ BB ∧ w.heap.size ≤ b3
  below : Below w.heap.size w W
theorem own_blk {W : World} {base b : Nat} {v : Value} {k : Nat} {xs : List Value} {C : Array Value} {t : TypeId} (h : W.ownsRow base 3 1 v k xs) (hb : W.heap[b]? = some (.cells C t (0, 0))) (ht : t ≠ 3) : some b ≠ v.ownBlock := by
  rcases h.2 with ⟨rfl, _⟩ | ⟨g, cap, cur, rfl, _, hg, _⟩
  · simp [Value.ownBlock]
  · intro e
    simp [Value.ownBlock] at e
    subst e
    rw [hb] at hg
    cases hg
    exact ht rfl
theorem row_blk {W : World} {b : Nat} {t n : Nat} {f : Nat → Value} (h : W.rowIs b t n f) : ∃ C, W.heap[b]? = some (.cells C t (0, 0)) := ⟨_, h.choose_spec.1⟩
theorem rowIs_kept {W W' : World} {row : Option Nat} {b : Nat} {t n : Nat} {f : Nat → Value} (h : W.rowIs b t n f) (hg : W.grownBy W' row) (hne : some b ≠ row) : W'.rowIs b t n f := h.of_block (hg.block b h.lt hne)
theorem own_form {W : World} {base : Nat} {v : Value} {k : Nat} {xs : List Value} (h : W.ownsRow base 3 1 v k xs) : ∃ oa c, v = .slice oa k c ∧ ∀ j u, xs[j]? = some u → ∃ a : Addr, oa = some a ∧ base ≤ a.block ∧ W.cell? (a.add j) = some u := by
  have h' := h
  rcases h.2 with ⟨rfl, rfl⟩ | ⟨g, cap, cur, rfl, hb, hg, hk, hcm, hcs, ht⟩
  · refine ⟨none, 0, rfl, fun j u hj => ?_⟩
    have := h.1
    simp at this
    subst this
    simp at hj
  · refine ⟨_, cap, rfl, fun j u hj => ⟨_, rfl, hb, ?_⟩⟩
    exact h'.cells (g := g) rfl j u hj
theorem own_lt {W : World} {base g : Nat} {v : Value} {k : Nat} {xs : List Value} (h : W.ownsRow base 3 1 v k xs) (e : v.ownBlock = some g) : base ≤ g ∧ g < W.heap.size := by
  rcases h.2 with ⟨rfl, rfl⟩ | ⟨g', cap, cur, rfl, hb, hg, _⟩
  · simp [Value.ownBlock] at e
  · simp [Value.ownBlock] at e
    subst e
    exact ⟨hb, (Array.getElem?_eq_some_iff.1 hg).1⟩
theorem grown_cell (W : World) (b i : Nat) (v : Value) : W.grownBy (W.setCell ⟨b, i, none⟩ v) (some b) :=
  ⟨rfl, rfl, rfl, by simp [World.setCell], fun k _ hk => Below.heap_setCell _ _ _ k (fun e => hk (by rw [e]))⟩
theorem below_grown {W W' : World} (h : Below W.heap.size W W') : W.grownBy W' none := ⟨h.os, h.tape, h.output, h.size, fun k hk _ => h.block k hk⟩
theorem Wv.start {w W : World} {b3 BN BB n : Nat} (hb : Below w.heap.size w W) (web : W.heap[b3]? = some (.cells #[.slice (some ⟨BN, 0, none⟩) n n, .slice (some ⟨BB, 0, none⟩) n n] 88 (0, 0)))
    (h1 : W.heap[BN]? = some (.cells (madeCells #[.slice none 0 0] n) 91 (0, 0))) (h2 : W.heap[BB]? = some (.cells (madeCells #[.slice none 0 0] n) 91 (0, 0))) (ne : BN ≠ BB ∧ w.heap.size ≤ BN ∧ w.heap.size ≤ BB ∧ w.heap.size ≤ b3) :
    Wv w W b3 BN BB n (fun _ => .slice none 0 0) (fun _ => .slice none 0 0) (fun _ => []) (fun _ => []) :=
  ⟨web, ⟨_, h1, size_madeCells _ _, fun i hi => by simp [madeCells, hi, Nat.mod_one]⟩, ⟨_, h2, size_madeCells _ _, fun i hi => by simp [madeCells, hi, Nat.mod_one]⟩, fun p _ => OwnW.nil W _, fun p _ => World.ownsRow_nil W _ _ _, fun _ _ _ _ => .inl rfl, fun _ _ _ _ _ => .inl rfl, ne, hb⟩
theorem Wv.next {w W W1 : World} {b3 BN BB n p : Nat} {vN vB : Nat → Value} {fN fB : Nat → List Nat} {v : Value} {l : List Nat} (h : Wv w W b3 BN BB n vN vB fN fB) (hp : p < n) (hb : Below W.heap.size W W1) (ho : OwnW W1 W.heap.size v l) :
    Wv w (W1.setCell ⟨BN, p, none⟩ v) b3 BN BB n (fun j => if j = p then v else vN j) vB (fun j => if j = p then l else fN j) fB := by
  have hg := below_grown hb
  have hn1 := rowIs_kept h.nxt hg (by simp)
  have hb1 := rowIs_kept h.bck hg (by simp)
  obtain ⟨C, hC⟩ := row_blk hn1
  have hw1 : W1.heap[b3]? = _ := (hg.block b3 (Array.getElem?_eq_some_iff.1 h.web).1 (by simp)).trans h.web
  have hs := grown_cell W1 BN p v
  have no : ∀ {v : Value}, v.ownBlock ≠ none ∨ v.ownBlock = none := fun {v} => by cases v.ownBlock <;> simp
  have kN : ∀ q, q < n → OwnW (W1.setCell ⟨BN, p, none⟩ v) w.heap.size (vN q) (fN q) := fun q hq => by
    have k := (h.ownN q hq).kept hg (by cases (vN q).ownBlock <;> simp)
    exact k.kept hs (.inr (k.blk hC (by decide)).symm)
  have kB : ∀ q, q < n → (W1.setCell ⟨BN, p, none⟩ v).ownsRow w.heap.size 3 1 (vB q) (fB q).length (rowI (fB q)) := fun q hq => by
    have k := (h.ownB q hq).kept hg (by cases (vB q).ownBlock <;> simp)
    exact k.kept hs (.inr (own_blk k hC (by decide)).symm)
  refine ⟨?_, hn1.set p v, hb1.setOther (by exact h.ne.1.symm) v, fun q hq => ?_, kB, fun q j hq hj => ?_, h.ap2, h.ne, ?_⟩
  · refine (hs.block b3 (Array.getElem?_eq_some_iff.1 hw1).1 (fun e => ?_)).trans hw1
    have e := Option.some.inj e
    rw [← e, hw1] at hC
    simp at hC
  · by_cases e : q = p
    · subst e
      simp only [if_true]
      have k := ho.weak h.below.size
      exact k.kept hs (.inr (k.blk hC (by decide)).symm)
    · simp only [if_neg e]
      exact kN q hq
  · by_cases e : j = p
    · subst e
      simp only [if_true]
      cases hv : (vB q).ownBlock with
      | none => exact .inl rfl
      | some g =>
        refine .inr fun e => ?_
        have l1 := own_lt (h.ownB q hq) hv
        have l2 := ho.lt e.symm
        omega
    · simp only [if_neg e]
      exact h.ap1 q j hq hj
  · refine (h.below.trans (hb.mono h.below.size)).setCell (p := ⟨BN, p, none⟩) h.ne.2.1 v
theorem Wv.app {w W W0 W1 : World} {b3 BN BB n q : Nat} {vN vB : Nat → Value} {fN fB : Nat → List Nat} {v : Value} {p H : Nat} (h : Wv w W b3 BN BB n vN vB fN fB) (hq : q < n) (hb : Below W.heap.size W W0) (hg : W0.grownBy W1 (vB q).ownBlock)
    (ho : W1.ownsRow w.heap.size 3 1 v ((fB q).length + 1) (rowI (fB q) ++ [.int .i64 (p : Nat)])) (hH : W.heap.size ≤ H) (hat : v.ownBlock = (vB q).ownBlock ∨ v.ownBlock = some H) (hb3 : W.heap.size ≤ H) :
    Wv w (W1.setCell ⟨BB, q, none⟩ v) b3 BN BB n vN (fun j => if j = q then v else vB j) fN (fun j => if j = q then fB q ++ [p] else fB j) := by
  have hg0 := below_grown hb
  have hn0 := rowIs_kept h.nxt hg0 (by simp)
  have hb0 := rowIs_kept h.bck hg0 (by simp)
  have hw0 : W0.heap[b3]? = _ := (hg0.block b3 (Array.getElem?_eq_some_iff.1 h.web).1 (by simp)).trans h.web
  have oB0 := (h.ownB q hq).kept hg0 (by cases (vB q).ownBlock <;> simp)
  have hn1 := rowIs_kept hn0 hg (own_blk oB0 (row_blk hn0).choose_spec (by decide))
  have hb1 := rowIs_kept hb0 hg (own_blk oB0 (row_blk hb0).choose_spec (by decide))
  have hw1 : W1.heap[b3]? = _ := (hg.block b3 (Array.getElem?_eq_some_iff.1 hw0).1 (own_blk oB0 hw0 (by decide))).trans hw0
  obtain ⟨C, hC⟩ := row_blk hb1
  have hs := grown_cell W1 BB q v
  have ks : ∀ {v : Value} {k : Nat} {xs : List Value}, W.ownsRow w.heap.size 3 1 v k xs → (v.ownBlock = none ∨ v.ownBlock ≠ (vB q).ownBlock) → W1.ownsRow w.heap.size 3 1 v k xs := fun {v k xs} k1 k2 =>
    (k1.kept hg0 (by cases v.ownBlock <;> simp)).kept hg k2
  have kz : ∀ {v : Value} {k : Nat} {xs : List Value}, W1.ownsRow w.heap.size 3 1 v k xs → (W1.setCell ⟨BB, q, none⟩ v).ownsRow w.heap.size 3 1 v k xs := fun {v' k xs} k1 => k1.kept (grown_cell W1 BB q _) (.inr (own_blk k1 hC (by decide)).symm)
  have kz' : ∀ {u : Value} {k : Nat} {xs : List Value}, W1.ownsRow w.heap.size 3 1 u k xs → (W1.setCell ⟨BB, q, none⟩ v).ownsRow w.heap.size 3 1 u k xs := fun {u k xs} k1 => k1.kept hs (.inr (own_blk k1 hC (by decide)).symm)
  refine ⟨?_, hn1.setOther (by exact h.ne.1) v, hb1.set q v, fun j hj => ?_, fun j hj => ?_, fun j i hj hi => ?_, fun j i hj hi hji => ?_, h.ne, ?_⟩
  · refine (hs.block b3 (Array.getElem?_eq_some_iff.1 hw1).1 (fun e => ?_)).trans hw1
    have e := Option.some.inj e
    rw [← e, hw1] at hC
    simp at hC
  · have k1 := ((h.ownN j hj).kept hg0 (by cases (vN j).ownBlock <;> simp)).kept hg (by
      rcases h.ap1 q j hq hj with e | e
      · rw [e]; cases (vN j).ownBlock <;> simp
      · exact .inr fun e' => e e'.symm)
    exact k1.kept hs (.inr (k1.blk hC (by decide)).symm)
  · by_cases e : j = q
    · subst e
      simp only [if_true]
      have e2 : rowI (fB j ++ [p]) = rowI (fB j) ++ [.int .i64 (p : Nat)] := by simp [rowI]
      rw [e2, List.length_append]
      exact kz' ho
    · simp only [if_neg e]
      refine kz' (ks (h.ownB j hj) ?_)
      exact h.ap2 j q hj hq e
  · by_cases e : j = q
    · subst e
      simp only [if_true]
      rcases hat with e | e
      · rw [e]; exact h.ap1 j i hj hi
      · refine .inr fun e' => ?_
        have := (h.ownN i hi).lt (e'.symm.trans e)
        omega
    · simp only [if_neg e]
      exact h.ap1 j i hj hi
  · have far : ∀ i, i < n → (vB i).ownBlock ≠ some H := fun i hi e' => by
      have := own_lt (h.ownB i hi) e'
      omega
    by_cases e : j = q
    · subst e
      simp only [if_true, if_neg (Ne.symm hji)]
      rcases hat with e | e
      · rw [e]; exact h.ap2 j i hj hi hji
      · exact .inr fun e' => far i hi (e'.symm.trans e)
    · simp only [if_neg e]
      by_cases e2 : i = q
      · subst e2
        simp only [if_true]
        rcases hat with e | e
        · rw [e]; exact h.ap2 j i hj hi hji
        · exact .inr fun e' => far j hj (e'.trans e)
      · simp only [if_neg e2]
        exact h.ap2 j i hj hi hji
  · have hb1' : Below w.heap.size w W1 := by
      refine (h.below.trans (hb.mono h.below.size)).grown hg (Nat.le_trans h.below.size hb.size) fun k hk => ?_
      exact (own_lt (h.ownB q hq) hk).1
    exact hb1'.setCell (p := ⟨BB, q, none⟩) h.ne.2.2.1 v
theorem info3 : (Tryz.prog.info? 3).map (fun i => (i.zero, i.size, i.bytes)) = some (some (.int .i64 0), 1, 8) := by kernel_rfl
theorem take_new {l : List Nat} {k q : Nat} (hnd : l.Nodup) (hk : l[k]? = some q) : q ∉ l.take k ∧ ∀ j, j ∈ l.take (k + 1) ↔ j ∈ l.take k ∨ j = q := by
  have hlt : k < l.length := (List.getElem?_eq_some_iff.1 hk).1
  have he : l[k] = q := (List.getElem?_eq_some_iff.1 hk).2
  refine ⟨fun hm => ?_, fun j => ?_⟩
  · obtain ⟨i, hi, e⟩ := List.mem_iff_getElem.1 hm
    rw [List.length_take] at hi
    rw [List.getElem_take] at e
    exact List.pairwise_iff_getElem.1 hnd i k (by omega) hlt (by omega) (e.trans he.symm)
  · rw [List.take_add_one, hk]
    simp [eq_comm]
theorem back_next {nx : Nat → List Nat} {p k q : Nat} (hnd : (nx p).Nodup) (hk : (nx p)[k]? = some q) :
    (fun j => if j = q then ((List.range p).filter (fun i => decide (q ∈ nx i)) ++ if q ∈ (nx p).take k then [p] else []) ++ [p] else (List.range p).filter (fun i => decide (j ∈ nx i)) ++ if j ∈ (nx p).take k then [p] else []) =
    fun j => (List.range p).filter (fun i => decide (j ∈ nx i)) ++ if j ∈ (nx p).take (k + 1) then [p] else [] := by
  obtain ⟨h1, h2⟩ := take_new hnd hk
  funext j
  by_cases e : j = q
  · subst e
    rw [if_pos rfl, if_neg h1, if_pos ((h2 j).2 (.inr rfl)), List.append_nil]
  · rw [if_neg e]
    by_cases m : j ∈ (nx p).take k
    · rw [if_pos m, if_pos ((h2 j).2 (.inl m))]
    · rw [if_neg m, if_neg fun h => ((h2 j).1 h).elim m e]
theorem back_done {nx : Nat → List Nat} {p k : Nat} (hk : (nx p).length ≤ k) :
    (fun q => (List.range p).filter (fun i => decide (q ∈ nx i)) ++ if q ∈ (nx p).take k then [p] else []) = fun q => (List.range (p + 1)).filter fun i => decide (q ∈ nx i) := by
  funext q
  rw [List.take_of_length_le hk, List.range_succ, List.filter_append]
  congr 1
  by_cases m : q ∈ nx p <;> simp [m]
theorem Rws0.as {W : World} {R : Addr} {n : Nat} {f g : Nat → List Nat} (h : Rws0 W R n f) (e : ∀ p, p < n → f p = g p) : Rws0 W R n g := fun p hp => by
  rw [← e p hp]; exact h p hp
theorem Wv.rows {w W W' : World} {b3 BN BB n s : Nat} {vN vB : Nat → Value} {fN fB : Nat → List Nat} (h : Wv w W b3 BN BB n vN vB fN fB) (hg : W.grownBy W' (some s)) {C : Array Value} (hs : W.heap[s]? = some (.cells C 88 (0, 0))) (n1 : s ≠ BN) (n2 : s ≠ BB) :
    Rws0 W' ⟨BN, 0, none⟩ n fN ∧ Rws0 W' ⟨BB, 0, none⟩ n fB := by
  have one : ∀ (b : Nat) (v : Nat → Value) (f : Nat → List Nat), b ≠ s → W.rowIs b 91 n v → (∀ p, p < n → ∃ oa c, v p = .slice oa (f p).length c ∧ ∀ j u, (rowI (f p))[j]? = some u → ∃ a : Addr, oa = some a ∧ w.heap.size ≤ a.block ∧ W'.cell? (a.add j) = some u) → Rws0 W' ⟨b, 0, none⟩ n f := fun b v f hb hr ho p hp => by
    have hr' := rowIs_kept hr hg (fun e => hb (Option.some.inj e))
    obtain ⟨oa, c, e, hc⟩ := ho p hp
    refine ⟨oa, c, ?_, fun j q hj => ?_⟩
    · have := hr'.cell hp
      rw [e] at this
      have ea : (⟨b, 0, none⟩ : Addr).add p = ⟨b, p, none⟩ := by unfold Addr.add; by_cases h0 : p = 0 <;> simp [h0]
      rw [ea]; exact this
    · obtain ⟨a, ea, _, hcc⟩ := hc j (.int .i64 (q : Nat)) (by simp [rowI, hj])
      exact ⟨a, ea, hcc⟩
  exact ⟨one BN vN fN n1.symm h.nxt (fun p hp => ((h.ownN p hp).kept hg (.inr ((h.ownN p hp).blk hs (by decide)).symm)).form), one BB vB fB n2.symm h.bck (fun p hp => own_form ((h.ownB p hp).kept hg (.inr (own_blk (h.ownB p hp) hs (by decide)).symm)))⟩
theorem hpa (w : World) (o : Obj) : (w.alloc o).heap = w.heap.push o := rfl
theorem hpd (w : World) : w.drew.heap = w.heap := rfl
set_option maxRecDepth 100000 in
set_option maxHeartbeats 1000000 in
theorem weave_ok {oa : Option Addr} {n c : Nat} {nx : Nat → List Nat} (hn : n ≤ 64) (hnx : ∀ p, ∀ q ∈ nx p, q < n) (hnl : ∀ p, (nx p).length ≤ 1000) (hnd : ∀ p, (nx p).Nodup) (w : World)
    (hN : ∀ p, p < n → ∀ W, Below w.heap.size w W → Calls Tryz.prog 50 #[.slice oa n c, .int .i64 (p : Nat)] W fun e w' => ∃ v', e = .returned v' ∧ OwnW w' W.heap.size v' (nx p) ∧ Below W.heap.size W w') :
    Calls Tryz.prog 31 #[.slice oa n c] w fun e w' => ∃ BN BB, e = .returned (.agg #[.slice (some ⟨BN, 0, none⟩) n n, .slice (some ⟨BB, 0, none⟩) n n]) ∧ Rws0 w' ⟨BN, 0, none⟩ n nx ∧ Rws0 w' ⟨BB, 0, none⟩ n (bkw nx n) ∧ Below w.heap.size w w' := by
  have hmk := run_make_row' (P := Tryz.prog) 86 91 (.slice none 0 0) 24 (by kernel_rfl) (by kernel_rfl) rfl .i64 .i64 n (by omega) (by omega)
  obtain ⟨i0, hi0, hz0, hz1, hz2⟩ := info_parts info3
  go_enter Tryz.func31, Tryz.ntmps31
  go_wp2
  rename_i Q K hK0
  have hK : ∀ b3 BN BB W, Wv w W b3 BN BB n (fun _ => .slice none 0 0) (fun _ => .slice none 0 0) (fun _ => []) (fun _ => []) → W.heap[w.heap.size]? = some (.cells #[.slice none 0 0, .slice none 0 0] 88 (0, 0)) → w.heap.size < b3 ∧ w.heap.size < BN ∧ w.heap.size < BB → K { tmps := #[.slice oa n c, undef, .pointer (some ⟨w.heap.size, 0, none⟩), .pointer (some ⟨b3, 0, none⟩), undef, undef, undef, .slice oa n c, .int .i64 n, .slice (some ⟨BN, 0, none⟩) n n, .slice oa n c, .int .i64 n, .slice (some ⟨BB, 0, none⟩) n n, .agg #[.slice (some ⟨BN, 0, none⟩) n n, .slice (some ⟨BB, 0, none⟩) n n], undef, undef, undef, undef, undef, undef, undef, undef, undef, undef, undef, undef, undef, undef, undef, undef, undef, undef, undef, undef, undef, undef, undef, undef, undef, undef, undef, undef, undef, undef, undef, undef, undef, undef, undef, undef, undef], defers := [] } W := by
    intro b3 BN BB W hv h2 hgt
    apply hK0
    clear hK0
    go_wp2
    go_loopw [16] (fun v wr => ∃ p : Nat, p ≤ n ∧ v = .int .i64 (p : Nat) ∧ (∃ vN vB, Wv w wr b3 BN BB n vN vB (fun j => if j < p then nx j else []) (fun q => (List.range p).filter fun j => decide (q ∈ nx j))) ∧ wr.heap[w.heap.size]? = some (.cells #[.slice none 0 0, .slice none 0 0] 88 (0, 0)))
      (fun v _ => n - (intOf v).toNat)
    case atStart => exact ⟨0, Nat.zero_le _, rfl, ⟨_, _, by simpa using hv⟩, h2⟩
    case round =>
      obtain ⟨p, hpn, rfl, ⟨vN, vB, hv⟩, h2⟩ := hrel
      by_cases hp : p < n
      · have c30 : wr.cell? ⟨b3, 0, none⟩ = some (.slice (some ⟨BN, 0, none⟩) n n) := by simp [World.cell?, hv.web]
        have c31 : wr.cell? ⟨b3, 1, none⟩ = some (.slice (some ⟨BB, 0, none⟩) n n) := by simp [World.cell?, hv.web]
        have cN := hv.nxt.cell hp
        have fN := hv.nxt.frozen p
        have bN := hv.nxt.lt
        have bw := (Array.getElem?_eq_some_iff.1 hv.web).1
        have hp0 : (0 : Int) ≤ (p : Int) := Int.natCast_nonneg _
        have hp1 : (p : Int) < (n : Int) := by omega
        have A : Hid (Wv w wr b3 BN BB n vN vB (fun j => if j < p then nx j else []) (fun q => (List.range p).filter fun j => decide (q ∈ nx j))) := hv
        clear hv
        go_wp2_with fail
        have b3N : b3 ≠ BN := fun e => by
          have h1 := A.out.web
          obtain ⟨C, h2⟩ := row_blk A.out.nxt
          rw [e, h2] at h1
          simp at h1
        go_region_held3 (fun w' => w'.cell? ⟨b3, 0, none⟩ = some (.slice (some ⟨BN, 0, none⟩) n n))
          (first
            | go_keep
            | (rw [hb1.cell (by simpa using bw)]; assumption)
            | (rw [World.cell?_of_block (w := w1) (Below.heap_setCell _ _ _ _ (by simpa using b3N))]; assumption))
          ((go_at_call 50; refine (hN p hp _ (by first | exact A.out.below | exact A.out.below.drew)).mono ?_; rintro e w1 ⟨v', rfl, ho1, hb1⟩; obtain ⟨oa1, c1, rfl, hf1⟩ := ho1.form; have d1 := (hb1.cell (p := ⟨BN, p, none⟩) (by simpa using bN)).trans cN; have d2 := (hb1.frozen (p := ⟨BN, p, none⟩) (by simpa using bN)).trans fN))
        replace hb1 : Below wr.heap.size wr w1 := ⟨hb1.os, hb1.tape, hb1.output, hb1.size, hb1.block⟩
        have hv2 := Wv.next A.out hp hb1 ho1
        have h22 : (w1.setCell ⟨BN, p, none⟩ (.slice oa1 (nx p).length c1)).heap[w.heap.size]? = some (.cells #[.slice none 0 0, .slice none 0 0] 88 (0, 0)) := by
          have hlt := (Array.getElem?_eq_some_iff.1 h2).1
          refine ((grown_cell w1 BN p _).block w.heap.size (Nat.lt_of_lt_of_le hlt hb1.size) (fun e => by have := Option.some.inj e; omega)).trans ?_
          exact (hb1.block _ hlt).trans h2
        generalize hW2 : w1.setCell ⟨BN, p, none⟩ (.slice oa1 (nx p).length c1) = W2 at *
        have e30 : W2.cell? ⟨b3, 0, none⟩ = some (.slice (some ⟨BN, 0, none⟩) n n) := by simp [World.cell?, hv2.web]
        have eN : W2.cell? ⟨BN, p, none⟩ = some (.slice oa1 (nx p).length c1) := by
          have := hv2.nxt.cell hp
          simpa using this
        have hl := hnl p
        have B : Hid (Wv w W2 b3 BN BB n (fun j => if j = p then .slice oa1 (nx p).length c1 else vN j) vB _ _) := hv2
        have D : Hid (∀ j u, (rowI (nx p))[j]? = some u → ∃ a : Addr, oa1 = some a ∧ wr.heap.size ≤ a.block ∧ w1.cell? (a.add j) = some u) := hf1
        clear hv2 A c30 c31 cN fN bN bw ho1 hb1 d1 d2 hf1 hN hW2
        go_wp2_with fail
        go_loopw [32] (fun v wr2 => ∃ k : Nat, k ≤ (nx p).length ∧ v = .int .i64 (k : Nat) ∧ (∃ vN' vB', Wv w wr2 b3 BN BB n vN' vB' (fun j => if j < p + 1 then nx j else []) (fun q => ((List.range p).filter fun j => decide (q ∈ nx j)) ++ if q ∈ (nx p).take k then [p] else []) ∧ vN' p = .slice oa1 (nx p).length c1) ∧ wr2.heap[w.heap.size]? = some (.cells #[.slice none 0 0, .slice none 0 0] 88 (0, 0)))
          (fun v _ => (nx p).length - (intOf v).toNat)
        case atStart =>
          refine ⟨0, Nat.zero_le _, rfl, ⟨fun j => if j = p then .slice oa1 (nx p).length c1 else vN j, vB, ?_, ?_⟩, h22⟩
          · have B := B.out
            have e1 : (fun j => if j < p + 1 then nx j else []) = fun j => if j = p then nx p else if j < p then nx j else [] := by
              funext j
              by_cases e : j = p
              · subst e; simp
              · rw [if_neg e]
                by_cases e2 : j < p
                · rw [if_pos e2, if_pos (by omega)]
                · rw [if_neg e2, if_neg (by omega)]
            rw [e1]
            simpa using B
          · simp
        case round =>
          obtain ⟨k, hk, rfl, ⟨vN', vB', hv, hvN⟩, h2⟩ := hrel
          by_cases hkl : k < (nx p).length
          · have hq : (nx p)[k] < n := hnx p _ (List.getElem_mem hkl)
            obtain ⟨oa2, c2, e2, hf2⟩ := (hv.ownN p hp).form
            rw [hvN] at e2
            simp only [Value.slice.injEq] at e2
            have hfk := hf2 k (.int .i64 ((nx p)[k] : Nat)) (by simp [rowI, hkl])
            obtain ⟨a, ea, hab, hac⟩ := hfk
            rw [← e2.1] at ea
            subst ea
            generalize hqe : (nx p)[k] = q at *
            have c31 : wr.cell? ⟨b3, 1, none⟩ = some (.slice (some ⟨BB, 0, none⟩) n n) := by simp [World.cell?, hv.web]
            have cB := hv.bck.cell hq
            have fB := hv.bck.frozen q
            have bB := hv.bck.lt
            have bw := (Array.getElem?_eq_some_iff.1 hv.web).1
            have hq0 : (0 : Int) ≤ (q : Int) := Int.natCast_nonneg _
            have hq1 : (q : Int) < (n : Int) := by omega
            have b3B : b3 ≠ BB := fun e => by
              have h1 := hv.web
              obtain ⟨C, h2⟩ := row_blk hv.bck
              rw [e, h2] at h1
              simp at h1
            have rB := own_blk (hv.ownB q hq) hv.web (by decide)
            have rBB := own_blk (hv.ownB q hq) (row_blk hv.bck).choose_spec (by decide)
            have A := (⟨hv, hvN, e2.2⟩ : Hid _ ∧ Hid _ ∧ Hid _)
            clear hv hvN e2 hf2 B D e30 eN h22
            have n1 := World.new_ne wr ⟨b3, 1, none⟩ c31
            have n2 := World.new_ne wr ⟨BB, q, none⟩ cB
            have hb0 := A.1.out.below.size
            obtain ⟨L, hL, hown⟩ : ∃ L : List Nat, Hid (L = (List.range p).filter (fun j => decide (q ∈ nx j)) ++ if q ∈ (nx p).take k then [p] else []) ∧ wr.ownsRow w.heap.size 3 1 (vB' q) L.length (rowI L) := ⟨_, rfl, A.1.out.ownB q hq⟩
            have hlen : L.length ≤ 1000 := by
              have h1 := List.length_filter_le (fun j => decide (q ∈ nx j)) (List.range p)
              rw [hL.out, List.length_append]
              rw [List.length_range] at h1
              split <;> simp <;> omega
            go_wp2_with fail
            go_region_law
              ((refine step_append_lies _ (by rfl) _ _ _ (by rfl) w.heap.size 3 i0 _ 1 8 Tryz.underlying91 hi0 hz0 hz1 hz2 rfl (by omega) (vB' q) _ _ (by rfl) ((hown.alloc _).drew)
                    ⟨wr.heap.size, 0, none⟩ 1 1 [.int .i64 (p : Nat)] (by rfl) (by rfl) (World.news_of_block (cs := #[.int .i64 (p : Nat)]) (t := 3) (fr := (0, 0)) (heap_alloc_new wr _)) (by simp [Value.oneCell'])
                    (by omega) (by simp only [maxLen]; omega) (by omega) (by simp; omega) (wr.heap.size + 1) (by simp) ?_; intro gg cap w1 hown1 hgrow hat hlt; have d0 := (hgrow.cell_far ⟨b3, 1, none⟩ (by simp; omega) (by simpa using rB)).trans ((World.cell?_of_block (w := wr) (Below.heap_alloc wr (.cells #[.int .i64 (p : Nat)] 3) _ bw)).trans c31); have d1 := (hgrow.cell_far ⟨BB, q, none⟩ (by simp; omega) (by simpa using rBB)).trans ((World.cell?_of_block (w := wr) (Below.heap_alloc wr (.cells #[.int .i64 (p : Nat)] 3) _ bB)).trans cB); have d2 := (hgrow.frozen_far ⟨BB, q, none⟩ (by simp; omega) (by simpa using rBB)).trans ((World.frozen?_of_block (w := wr) (Below.heap_alloc wr (.cells #[.int .i64 (p : Nat)] 3) _ bB)).trans fB)))
            all_goals
              have hv3 := Wv.app (v := .slice (some ⟨gg, 0, none⟩) (L.length + 1) cap) (p := p) (H := wr.heap.size + 1) A.1.out hq (by exact (((Below.refl _ wr).alloc (Nat.le_refl _) _)).drew) hgrow (by rw [← hL.out]; exact hown1) (by omega) (by
                rcases hat with h | h
                · exact .inl h.symm
                · exact .inr (by rw [h]; rfl)) (by omega)
              rw [back_next (hnd p) (by rw [← hqe]; exact List.getElem?_eq_getElem hkl)] at hv3
              have h24 : (w1.setCell ⟨BB, q, none⟩ (.slice (some ⟨gg, 0, none⟩) (L.length + 1) cap)).heap[w.heap.size]? = some (.cells #[.slice none 0 0, .slice none 0 0] 88 (0, 0)) := by
                have hlt := (Array.getElem?_eq_some_iff.1 h2).1
                have hb9 : (wr.alloc (.cells #[.int .i64 (p : Nat)] 3)).heap[w.heap.size]? = _ := (Below.heap_alloc wr _ _ hlt).trans h2
                have hb8 := (hgrow.block w.heap.size (by show _ < (wr.alloc _).heap.size; rw [World.size_alloc]; omega) (own_blk hown h2 (by decide))).trans hb9
                exact ((grown_cell w1 BB q _).block w.heap.size (Array.getElem?_eq_some_iff.1 hb8).1 (fun e => by have := Option.some.inj e; omega)).trans hb8
              have hN' := A.2.1.out
              clear hgrow hown1 hat hlt d0 d1 d2 A hown n1 n2 cB fB c31
              go_wp2
              go_roundw
              case rel => exact ⟨k + 1, hkl, by simp, ⟨vN', _, hv3, hN'⟩, h24⟩
              case measure =>
                show (nx p).length - (intOf (Value.int .i64 ((k + 1 : Nat) : Int))).toNat < (nx p).length - (intOf (Value.int .i64 (k : Nat))).toNat
                simp only [intOf, Int.toNat_natCast]
                omega
          · rw [back_done (by omega)] at hv
            go_wp2
            go_roundw
            case rel => exact ⟨p + 1, hp, by simp, ⟨_, _, hv⟩, h2⟩
            case measure =>
              show n - (intOf (Value.int .i64 ((p + 1 : Nat) : Int))).toNat < n - (intOf (Value.int .i64 (p : Nat))).toNat
              simp only [intOf, Int.toNat_natCast]
              omega
      · have ep : p = n := by omega
        subst ep
        have c30 : wr.cell? ⟨b3, 0, none⟩ = some (.slice (some ⟨BN, 0, none⟩) p p) := by simp [World.cell?, hv.web]
        have c31 : wr.cell? ⟨b3, 1, none⟩ = some (.slice (some ⟨BB, 0, none⟩) p p) := by simp [World.cell?, hv.web]
        have d0 : wr.cell? ⟨w.heap.size, 0, none⟩ = some (.slice none 0 0) := by simp [World.cell?, h2]
        have d1 : wr.cell? ⟨w.heap.size, 1, none⟩ = some (.slice none 0 0) := by simp [World.cell?, h2]
        have f0 : ∀ i, wr.frozen? ⟨w.heap.size, i, none⟩ = false := fun i => by simp [World.frozen?, h2]
        have A : Hid (Wv w wr b3 BN BB p vN vB (fun j => if j < p then nx j else []) (fun q => (List.range p).filter fun j => decide (q ∈ nx j))) := hv
        clear hv
        go_wp2
        have hg : ((wr.setCell ⟨w.heap.size, 0, none⟩ (.slice (some ⟨BN, 0, none⟩) p p)).setCell ⟨w.heap.size, 1, none⟩ (.slice (some ⟨BB, 0, none⟩) p p)).heap[w.heap.size]? = some (.cells #[.slice (some ⟨BN, 0, none⟩) p p, .slice (some ⟨BB, 0, none⟩) p p] 88 (0, 0)) := by
          simp [World.setCell, Array.getElem?_modify, h2]
        refine bodyPost_ret (results_cell_row rfl _ _ w.heap.size 88 #[.slice (some ⟨BN, 0, none⟩) p p, .slice (some ⟨BB, 0, none⟩) p p] (0, 0) _ rfl hg Tryz.underlying88 rfl (by kernel_rfl)) rfl ?_
        have hgr := (grown_cell wr w.heap.size 0 (.slice (some ⟨BN, 0, none⟩) p p)).trans (grown_cell (wr.setCell ⟨w.heap.size, 0, none⟩ (.slice (some ⟨BN, 0, none⟩) p p)) w.heap.size 1 (.slice (some ⟨BB, 0, none⟩) p p))
        obtain ⟨k1, k2⟩ := A.out.rows hgr h2 (by omega) (by omega)
        exact ⟨BN, BB, rfl, k1.as fun j hj => if_pos hj, k2, (A.out.below.setCell (p := ⟨w.heap.size, 0, none⟩) (Nat.le_refl _) _).setCell (p := ⟨w.heap.size, 1, none⟩) (Nat.le_refl _) _⟩
  clear hK0
  go_region
  all_goals refine hK _ _ _ _ (Wv.start (b3 := _) ?_ ?_ ?_ ?_ ⟨?_, ?_, ?_, ?_⟩) ?_ ⟨?_, ?_, ?_⟩
  all_goals first
    | omega
    | exact Below.drew (((((Below.refl _ w).alloc (Nat.le_refl _) _).alloc (by simp only [World.size_alloc]; omega) _).alloc (by simp only [World.size_alloc]; omega) _).alloc (by simp only [World.size_alloc]; omega) _)
    | (simp only [hpa, hpd, Array.getElem?_push, Array.size_push, if_true]; repeat' split
       all_goals first | rfl | (exfalso; omega))

end
end Go.Proofs.YtppkkgicidagmabGreatDoor
