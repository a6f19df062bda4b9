/-
  A symbolic executor, part R: a region that draws, in one pass where one operation alone may come up next.
-/
import Derived.Test.YtjooaieolphomaaEngO
set_option linter.unusedVariables false
set_option linter.unusedSimpArgs false
namespace Go.Eng

theorem wpAnyH_swap {P : Program} {ops : Array Oper} {Q : Exit → Act → World → Prop} {S S' : World → Prop} (h : ∀ w, S w → S' w) : ∀ (fuel : Nat) {li : Array Bool} {a : Act} {w : World},
    wpAnyH P .any ops Q S fuel li a w → wpAnyH P .any ops Q S' fuel li a w
  | 0, _, _, _, hh => hh
  | fuel + 1, _, _, _, hh => ⟨hh.1, fun i hi => wpOp_mono (fun _ _ h' => ⟨h _ h'.1, wpAnyH_swap h fuel h'.2⟩) (hh.2 i hi)⟩

def D.kn (d : D) (kn : List (E × Bool)) : D := { d with s0 := { d.s0 with kn := kn } }

theorem DOk.kn' {d : D} {ρ : Env} {β0 : Nat → Nat × Nat} {s00 : St} (hd : DOk d ρ β0 s00) {kn : List (E × Bool)} (hk : ∀ e b, (e, b) ∈ kn → (e.ev ρ != 0) = b) : DOk (d.kn kn) ρ β0 s00 :=
  ⟨hd.hcx, hd.hcf, hd.hex, hd.hρ, hd.len, hd.sc, hd.le, hk, hd.inj⟩

/-- one operation that is wanted, whatever comes of it -/
def D.doT (d : D) (i : Nat) (o : Oper) (tm : List SV) (s : St) : RR :=
  match o.op with
  | .alloc el => (match zeroS d.cx el with
    | some z => match z.cells with
      | some l => match reviveS s (d.n0 + allocsTo d.ops i) l el with
        | some s1 => if SV.avL (d.n0 + allocsTo d.ops i) tm && stays d.s0.bl s1.bl then .leaf (putS tm o.dst (.ptr (d.n0 + allocsTo d.ops i) 0), s1) else .bad 57
        | none => .bad 54
      | none => .bad 55
    | none => .bad 55)
  | .box el x => (match (evO tm x).cells with
    | some l => match reviveS s (d.n0 + allocsTo d.ops i) l el with
      | some s1 => if SV.avL (d.n0 + allocsTo d.ops i) tm && stays d.s0.bl s1.bl then .leaf (putS tm o.dst (.ptr (d.n0 + allocsTo d.ops i) 0), s1) else .bad 57
      | none => .bad 54
    | none => .bad 56)
  | .buildSlice t len parts => (match rowC d.cx t len (parts.toList.map fun p => (p.1, evO tm p.2)) with
    | some (el, l) => match reviveS s (d.n0 + allocsTo d.ops i) l el with
      | some s1 => if SV.avL (d.n0 + allocsTo d.ops i) tm && stays d.s0.bl s1.bl then .leaf (putS tm o.dst (.slice (d.n0 + allocsTo d.ops i) 0 len (some len)), s1) else .bad 57
      | none => .bad 54
    | none => .bad 59)
  | _ => (opC d.cx d.cf d.ex tm s o).bind fun r => if (!chg o.op || SV.scL s.bl.length tm) && stays d.s0.bl r.2.bl then
      SV.share d.cx r.1 r.2 fun v s2 => .leaf (putS tm o.dst v, s2) else .bad 57

/-- one operation -/
def D.stepT (d : D) (i : Nat) (tm : List SV) (s : St) : RR :=
  match d.ops[i]? with
  | none => .bad 51
  | some o =>
    match wantS d.ops tm o with
    | .unk => .bad 52
    | .no => .leaf (putS tm o.dst undefS, s)
    | .yes => d.doT i o tm s
    | .on e want => if want then fork s e (fun s => d.doT i o tm s) (fun s => .leaf (putS tm o.dst undefS, s))
      else fork s e (fun s => .leaf (putS tm o.dst undefS, s)) (fun s => d.doT i o tm s)

/-- one by one; where more than one may come up: all orders -/
def D.lin (d : D) (tbl : List Row) : Nat → Nat → Nat → List SV → List SBlk → RR
  | 0, _, _, _, _ => .bad 58
  | _ + 1, 0, li, tm, bl => match readyM li tbl 0 with
    | [] => .leaf (tm, ⟨bl, d.s0.kn⟩)
    | _ => .bad 58
  | gas + 1, fuel + 1, li, tm, bl => match readyM li tbl 0 with
    | [] => .leaf (tm, ⟨bl, d.s0.kn⟩)
    | i :: rest => match d.takeOneM tbl li tm (i :: rest) with
      | some (k, v) => SV.share d.cx v ⟨bl, d.s0.kn⟩ fun v s => (d.kn s.kn).lin tbl gas fuel (li ||| (1 <<< k)) (putS tm (dstOf d.ops k) v) bl
      | none => match rest with
        | [] => (d.stepT i tm ⟨bl, d.s0.kn⟩).bind fun r => (d.kn r.2.kn).lin tbl gas fuel (li ||| (1 <<< i)) r.1 r.2.bl
        | _ => match d.layer tbl (fuel + 1) [⟨li, tm, bl⟩] with
          | .ok tm' s' => .leaf (tm', ⟨s'.bl, d.s0.kn⟩)
          | .need e => .br e ((d.kn ((e, true) :: d.s0.kn)).lin tbl gas (fuel + 1) li tm bl) ((d.kn ((e, false) :: d.s0.kn)).lin tbl gas (fuel + 1) li tm bl)
          | .bad n => .bad n

theorem ext_bl' {s s1 s2 : St} {β β' : Nat → Nat × Nat} {w w' : World} (h : Ext s s1 β β' w w') (e : s1.bl = s2.bl) {kn : List (E × Bool)} : Ext s ⟨s2.bl, kn⟩ β β' w w' := h.trans (ext_kn (s1 := ⟨s2.bl, kn⟩) e.symm β' w')

section
variable {d : D} {ρ : Env} {β0 : Nat → Nat × Nat} {s00 : St} {w0 : World} {ds : List Deferred}

theorem doT_ok (hd : DOk d ρ β0 s00) {i : Nat} {o : Oper} {tm tm1 : List SV} {s s1 : St} {a : Act} {w : World} (hc : Cur d ρ β0 s00 w0 ds tm s a w) (h : (d.doT i o tm s).sel ρ = some (tm1, s1))
    {K : Act → World → Prop} {Q : Exit → Act → World → Prop} (hK : ∀ a' w', Cur d ρ β0 s00 w0 ds tm1 s1 a' w' → K a' w') : o.wp d.cx.P a w K Q := by
  obtain ⟨⟨β, ht, hs, hx⟩, hds, hst⟩ := hc
  -- a box
  have mk : ∀ (el : TypeId) (l : List SV), (match reviveS s (d.n0 + allocsTo d.ops i) l el with
      | some s1 => if SV.avL (d.n0 + allocsTo d.ops i) tm && stays d.s0.bl s1.bl then (T.leaf (putS tm o.dst (.ptr (d.n0 + allocsTo d.ops i) 0), s1) : RR) else .bad 57
      | none => .bad 54).sel ρ = some (tm1, s1) →
      (execOp a.eval o).run d.cx.P w = .ok (.value (.pointer (some ⟨w.heap.size, 0, none⟩))) (w.alloc (.cells (SV.denL ρ β l).toArray el)) → o.wp d.cx.P a w K Q := by
    intro el l h hrun
    split at h
    · rename_i s2 h2
      split at h <;> cases h
      rename_i hh
      simp only [Bool.and_eq_true] at hh
      obtain ⟨r1, r2, r3, _, _⟩ := reviveS_ok hs hx (by have := hd.len; omega) h2
      refine Res.wp (.inl hrun) (hK _ _ ⟨⟨_, ?_, r1, r2⟩, by rw [put_defers]; exact hds, ?_⟩)
      · have hp : Value.pointer (some ⟨w.heap.size, 0, none⟩) = (SV.ptr (d.n0 + allocsTo d.ops i) 0).den ρ (bset β (d.n0 + allocsTo d.ops i) w.heap.size) := by simp [SV.den, bset]
        rw [hp]
        refine putS_den (ρ := ρ) ?_ _ _
        rw [ht, SV.denL_av r3 tm hh.1]
      · exact stays_sat hd r1 hh.2 (fun j hj => r2.ag j (by rw [hd.len]; exact hj))
    · cases h
  unfold D.doT at h
  split at h
  · rename_i el hop
    split at h
    · rename_i z hz
      split at h
      · rename_i l hl
        refine mk el l h ?_
        simp only [execOp, hop]
        refine run_v ?_
        simp only [Instr.alloc, Sem.run_bind, zeroS_ok (ρ := ρ) (β := β) (w := w) hz, Result.andThen_ok]
        simp [newVar, newRow, (SV.cells_den hd.hρ β hl).1]
      · cases h
    · cases h
  · rename_i el x hop
    split at h
    · rename_i l hl
      refine mk el l h ?_
      simp only [execOp, hop]
      refine run_v ?_
      simp only [evO_den ht, Instr.box, Sem.run_bind]
      simp [newVar, newRow, (SV.cells_den hd.hρ β hl).1]
    · cases h
  · rename_i bt len parts hop
    split at h
    · rename_i el l hl
      split at h
      · rename_i s2 h2
        split at h <;> cases h
        rename_i hh
        simp only [Bool.and_eq_true] at hh
        obtain ⟨r1, r2, r3, _, _⟩ := reviveS_ok hs hx (by have := hd.len; omega) h2
        have hrun : (execOp a.eval o).run d.cx.P w = .ok (.value (.slice (some ⟨w.heap.size, 0, none⟩) len len)) (w.alloc (.cells (SV.denL ρ β l).toArray el)) := by
          simp only [execOp, hop]
          refine run_v ?_
          rw [parts_map tm ht]
          exact rowC_ok hd.hρ hl
        refine Res.wp (.inl hrun) (hK _ _ ⟨⟨_, ?_, r1, r2⟩, by rw [put_defers]; exact hds, ?_⟩)
        · have hp : Value.slice (some ⟨w.heap.size, 0, none⟩) len len = (SV.slice (d.n0 + allocsTo d.ops i) 0 len (some len)).den ρ (bset β (d.n0 + allocsTo d.ops i) w.heap.size) := by simp [SV.den, bset]
          rw [hp]
          refine putS_den (ρ := ρ) ?_ _ _
          rw [ht, SV.denL_av r3 tm hh.1]
        · exact stays_sat hd r1 hh.2 (fun j hj => r2.ag j (by rw [hd.len]; exact hj))
      · cases h
    · cases h
  · obtain ⟨⟨r, s2⟩, h1, h2⟩ := T.sel_bind_some h
    split at h2
    · rename_i hh
      simp only [Bool.and_eq_true] at hh
      obtain ⟨hch, hstay⟩ := hh
      refine opC_ok hd.hcx hd.hcf hd.hex hd.hρ ht hs h1 _ _ ?_
      rintro V w' ⟨β', rfl, hs2, hx2, hc2⟩
      have htm : (SV.denL ρ β tm) = SV.denL ρ β' tm := by
        simp only [Bool.or_eq_true, Bool.not_eq_true'] at hch
        rcases hch with hch | hch
        · rw [hc2 hch]
        · exact (SV.denL_sc hx2.ag tm hch).symm
      rw [htm] at ht
      have hx3 := hx.trans hx2
      obtain ⟨v1, s3, hv1, hbl, hs3, h3⟩ := SV.share_ok hd.hρ r hs2 h2
      cases h3
      rw [← hv1 β']
      exact hK _ _ ⟨⟨β', putS_den ht _ _, hs3, hx3.trans (ext_kn hbl β' w')⟩, by rw [put_defers]; exact hds, stays_sat hd hs2 hstay (fun j hj => hx3.ag j (by rw [hd.len]; exact hj))⟩
    · cases h2

theorem stepT_ok (hd : DOk d ρ β0 s00) {i : Nat} {tm tm1 : List SV} {s s1 : St} {a : Act} {w : World} (hc : Cur d ρ β0 s00 w0 ds tm s a w) (h : (d.stepT i tm s).sel ρ = some (tm1, s1))
    {K : Act → World → Prop} {Q : Exit → Act → World → Prop} (hK : ∀ a' w', Cur d ρ β0 s00 w0 ds tm1 s1 a' w' → K a' w') : wpOp d.cx.P d.ops Q i K a w := by
  obtain ⟨⟨β, ht, hs, hx⟩, hds, hst⟩ := hc
  unfold D.stepT at h
  split at h
  · cases h
  · rename_i o ho
    unfold wpOp
    simp only [ho]
    have hw := wantS_ok (ops := d.ops) (o := o) ht
    have cur : ∀ s', s'.bl = s.bl → Sat ρ β s' w → Cur d ρ β0 s00 w0 ds tm s' a w := fun s' e hs' => ⟨⟨β, ht, hs', hx.trans (ext_kn e β w)⟩, hds, hst⟩
    have pass : ∀ s', s'.bl = s.bl → Sat ρ β s' w → (tm1, s1) = (putS tm o.dst undefS, s') → K (a.put o.dst undef) w := fun s' e hs' he => by
      cases he
      exact hK _ _ ⟨⟨β, putS_den ht o.dst undefS, hs', hx.trans (ext_kn e β w)⟩, by rw [put_defers]; exact hds, hst⟩
    cases hwd : wantS d.ops tm o with
    | unk => rw [hwd] at h; cases h
    | no =>
      rw [hwd] at h hw
      simp only at h hw
      rw [hw]
      simp only [Bool.false_eq_true, if_false]
      cases h
      exact pass s rfl hs rfl
    | yes =>
      rw [hwd] at h hw
      simp only at h hw
      rw [hw]
      simp only [if_true]
      exact .inl (doT_ok hd (cur s rfl hs) h hK)
    | on e want =>
      rw [hwd] at h hw
      simp only at h hw
      cases want
      · simp only [Bool.false_eq_true, if_false] at h
        obtain ⟨s2, e2, hs2, ⟨hne, h⟩ | ⟨h0, h⟩⟩ := fork_ok hs h
        · have : Region.wanted o (yielded d.ops a.tmps) = false := by rw [hw]; simpa using hne
          rw [this]
          simp only [Bool.false_eq_true, if_false]
          simp only [T.sel, Option.some.injEq] at h
          exact pass s2 e2 hs2 h.symm
        · have : Region.wanted o (yielded d.ops a.tmps) = true := by rw [hw]; simpa using h0
          rw [this]
          simp only [if_true]
          exact .inl (doT_ok hd (cur s2 e2 hs2) h hK)
      · simp only [if_true] at h
        obtain ⟨s2, e2, hs2, ⟨hne, h⟩ | ⟨h0, h⟩⟩ := fork_ok hs h
        · have : Region.wanted o (yielded d.ops a.tmps) = true := by rw [hw]; simpa using hne
          rw [this]
          simp only [if_true]
          exact .inl (doT_ok hd (cur s2 e2 hs2) h hK)
        · have : Region.wanted o (yielded d.ops a.tmps) = false := by rw [hw]; simpa using h0
          rw [this]
          simp only [Bool.false_eq_true, if_false]
          simp only [T.sel, Option.some.injEq] at h
          exact pass s2 e2 hs2 h.symm

theorem Cur.rekn {kn : List (E × Bool)} {tm : List SV} {s : St} {a : Act} {w : World} (hk : ∀ e b, (e, b) ∈ kn → (e.ev ρ != 0) = b) (h : Cur d ρ β0 s00 w0 ds tm s a w) : Cur (d.kn kn) ρ β0 s00 w0 ds tm ⟨s.bl, kn⟩ a w := by
  obtain ⟨⟨β, h1, h2, h3⟩, h4, h5⟩ := h
  exact ⟨⟨β, h1, ⟨h2.blk, h2.inj, hk⟩, h3.trans (ext_kn (s := s) (s1 := ⟨s.bl, kn⟩) rfl β w)⟩, h4, ⟨h5.blk, h5.inj, hk⟩⟩

theorem lin_ok (hcl : closedT d.ops.size d.ops = true) (hns : Region.noSelect d.ops = true) {Q : Exit → Act → World → Prop} (hQp : ∀ c a w, ¬ Q (.panic c) a w) {tm' : List SV} {s' : St}
    (hQ : ∀ a' w' β', a'.tmps = (SV.denL ρ β' tm').toArray → a'.defers = ds → Sat ρ β' s' w' → Ext s00 s' β0 β' w0 w' → Q .normal a' w') : ∀ (gas : Nat) {kn : List (E × Bool)} {fuel li : Nat} {tm : List SV} {bl : List SBlk} {a : Act} {w : World},
    DOk (d.kn kn) ρ β0 s00 → Cur (d.kn kn) ρ β0 s00 w0 ds tm ⟨bl, kn⟩ a w → ((d.kn kn).lin (tableOf d.ops) gas fuel li tm bl).sel ρ = some (tm', s') →
    wpAnyH d.cx.P .any d.ops Q (fun w => Sat ρ β0 ⟨d.s0.bl, []⟩ w) fuel (liOf d.ops.size li) a w
  | 0, kn, fuel, li, tm, bl, a, w, hd, hc, h => by cases h
  | gas + 1, kn, 0, li, tm, bl, a, w, hd, hc, h => by
    simp only [D.lin] at h
    split at h
    · rename_i hr
      cases h
      obtain ⟨⟨β, h1, h2, h3⟩, h4, h5⟩ := hc
      exact ⟨(ready_eq hcl _).trans hr, hQ _ _ β h1 h4 h2 h3⟩
    · cases h
  | gas + 1, kn, fuel + 1, li, tm, bl, a, w, hd, hc, h => by
    have hS : ∀ w', Sat ρ β0 (d.kn kn).s0 w' → Sat ρ β0 ⟨d.s0.bl, []⟩ w' := fun w' h' => ⟨h'.blk, h'.inj, fun e b hm => by cases hm⟩
    have hS' : ∀ w', Sat ρ β0 ⟨d.s0.bl, []⟩ w' → Sat ρ β0 (d.kn kn).s0 w' := fun w' h' => ⟨h'.blk, h'.inj, hd.kn⟩
    simp only [D.lin] at h
    split at h
    · rename_i hr
      cases h
      obtain ⟨⟨β, h1, h2, h3⟩, h4, h5⟩ := hc
      exact wpAnyH_done ((ready_eq hcl _).trans hr) (hQ _ _ β h1 h4 h2 h3) _
    · rename_i i rest hr
      split at h
      · rename_i k v hk
        obtain ⟨hmem, htk, hklt⟩ := takeOneM_ok (d := d.kn kn) hk
        obtain ⟨⟨β, ht, hs, hx⟩, hds, hst⟩ := hc
        obtain ⟨o, ho, hfree, hy⟩ := take_ok hd ht hx hst htk
        have hy' : YieldsIf d.cx.P d.ops (fun w => Sat ρ β0 ⟨d.s0.bl, []⟩ w) o (v.den ρ β) a := by
          rcases hy with ⟨h1, h2⟩ | h1
          · exact .inl ⟨h1, fun w' hw' => h2 w' (hS' w' hw')⟩
          · exact .inr h1
        refine wpAnyH_take ho hns hfree (by rw [ready_eq hcl, hr]; simpa using hmem) (fun c a w h => absurd h (hQp c _ w)) hy' (hS _ hst) ?_
        have hli : (liOf d.ops.size li).setIfInBounds k true = liOf d.ops.size (li ||| (1 <<< k)) := liOf_set hklt
        show wpAnyH d.cx.P .any d.ops Q _ fuel ((liOf d.ops.size li).setIfInBounds k true) _ _
        rw [hli]
        obtain ⟨v1, s1, hv1, hbl, hs1, h1⟩ := SV.share_ok (cx := (d.kn kn).cx) hd.hρ v hs h
        rw [← hv1 β]
        have hdst : dstOf d.ops k = o.dst := by
          have : d.ops[k]? = some o := ho
          simp [dstOf, this]
        have hd1 : DOk (d.kn s1.kn) ρ β0 s00 := DOk.kn' (d := d.kn kn) hd hs1.kn
        refine lin_ok hcl hns hQp hQ gas (kn := s1.kn) hd1 ?_ h1
        refine ⟨⟨β, ?_, ⟨hs.blk, hs.inj, hs1.kn⟩, hx.trans (ext_kn (s := ⟨bl, kn⟩) (s1 := ⟨bl, s1.kn⟩) rfl β w)⟩, by rw [put_defers]; exact hds, ⟨hst.blk, hst.inj, hs1.kn⟩⟩
        have : dstOf (d.kn kn).ops k = o.dst := hdst
        rw [this]
        exact putS_den ht _ _
      · split at h
        · obtain ⟨⟨tm1, s1⟩, h1, h2⟩ := T.sel_bind_some h
          have hrd := (ready_eq hcl li).trans hr
          refine wpAnyH_all hrd (by simp) fun k hk => ?_
          have hki : k = i := by simpa using hk
          subst hki
          have hklt : k < d.ops.size := by
            have hk2 : k ∈ Region.ready .any d.ops (liOf d.ops.size li) := by rw [hrd]; simp
            simp only [Region.ready, List.mem_filter, List.mem_range] at hk2
            exact hk2.1
          refine stepT_ok (d := d.kn kn) hd hc h1 fun a' w' hc' => ⟨hS _ hc'.st, ?_⟩
          rw [liOf_set hklt]
          obtain ⟨β, _, hs', _⟩ := hc'.ex
          exact lin_ok hcl hns hQp hQ gas (DOk.kn' (d := d.kn kn) hd hs'.kn) (Cur.rekn (d := d.kn kn) (kn := s1.kn) hs'.kn hc') h2
        · split at h
          · rename_i tm2 s2 hl
            cases h
            refine wpAnyH_swap hS _ (layer_ok (d := d.kn kn) hd hcl hns hQp (fun a' w' s'' e hc' => ?_) (fuel + 1) hl _ (List.mem_singleton.2 rfl) _ _ hc)
            obtain ⟨⟨β, g1, g2, g3⟩, g4, _⟩ := hc'
            exact hQ _ _ β g1 g4 ⟨fun j b hj => g2.blk j b (by rw [e]; exact hj), fun i j hi hj => g2.inj i j (by simpa [live, e] using hi) (by simpa [live, e] using hj), hd.kn⟩ (ext_bl' g3 e)
          · rename_i e hl
            simp only [T.sel] at h
            split at h
            · rename_i hne
              have hk1 : ∀ e' b, (e', b) ∈ (e, true) :: kn → (e'.ev ρ != 0) = b := by
                intro e' b hm
                rcases List.mem_cons.1 hm with hm | hm
                · cases hm; simpa using hne
                · exact hd.kn _ _ hm
              exact lin_ok hcl hns hQp hQ gas (DOk.kn' (d := d.kn kn) hd hk1) (Cur.rekn (d := d.kn kn) hk1 hc) h
            · rename_i hne
              have hk1 : ∀ e' b, (e', b) ∈ (e, false) :: kn → (e'.ev ρ != 0) = b := by
                intro e' b hm
                rcases List.mem_cons.1 hm with hm | hm
                · cases hm; simpa using hne
                · exact hd.kn _ _ hm
              exact lin_ok hcl hns hQp hQ gas (DOk.kn' (d := d.kn kn) hd hk1) (Cur.rekn (d := d.kn kn) hk1 hc) h
          · cases h

end

/-! ### tables of regions, reckoned ahead -/

def regs : Code → List (Nat × Array Oper)
  | .region id ops true => [(id, ops)]
  | .seq x y => regs x ++ regs y
  | .cond _ x y => regs x ++ regs y
  | .block _ c => regs c
  | .scope c => regs c
  | .loop c => regs c
  | _ => []

abbrev RT := Nat → Option (List Row)
def RtOk (rt : RT) (c : Code) : Prop := ∀ id ops, (id, ops) ∈ regs c → ∀ t, rt id = some t → t = tableOf ops ∧ Region.noSelect ops = true ∧ closedT ops.size ops = true

def Row.beq (a b : Row) : Bool := Nat.beq a.need b.need && Nat.beq a.conf b.conf
def rowsBeq : List Row → List Row → Bool
  | [], [] => true
  | a :: l, b :: m => a.beq b && rowsBeq l m
  | _, _ => false
theorem rows_of_beq : ∀ {l m : List Row}, rowsBeq l m = true → l = m
  | [], [], _ => rfl
  | a :: l, b :: m, h => by
    simp only [rowsBeq, Bool.and_eq_true, Row.beq] at h
    obtain ⟨a1, a2⟩ := a
    obtain ⟨b1, b2⟩ := b
    rw [rows_of_beq h.2]
    simp only at h
    rw [Nat.eq_of_beq_eq_true h.1.1, Nat.eq_of_beq_eq_true h.1.2]
  | [], _ :: _, h => by cases h
  | _ :: _, [], h => by cases h

def rtChk (rt : RT) (c : Code) : Bool := (regs c).all fun p => match rt p.1 with
  | some t => rowsBeq t (tableOf p.2) && Region.noSelect p.2 && closedT p.2.size p.2
  | none => true
theorem rtChk_ok {rt : RT} {c : Code} (h : rtChk rt c = true) : RtOk rt c := by
  intro id ops hm t ht
  have := List.all_eq_true.1 h _ hm
  simp only [ht, Bool.and_eq_true] at this
  exact ⟨rows_of_beq this.1.1, this.1.2, this.2⟩

def tblOf (rt : RT) (id : Nat) (ops : Array Oper) : Option (List Row) :=
  match rt id with
  | some t => some t
  | none => if Region.noSelect ops && closedT ops.size ops then some (tableOf ops) else none
theorem tblOf_ok {rt : RT} {id : Nat} {ops : Array Oper} (h : ∀ t, rt id = some t → t = tableOf ops ∧ Region.noSelect ops = true ∧ closedT ops.size ops = true) {t : List Row} (ht : tblOf rt id ops = some t) :
    t = tableOf ops ∧ Region.noSelect ops = true ∧ closedT ops.size ops = true := by
  unfold tblOf at ht
  split at ht
  · rename_i u hu; cases ht; exact h _ hu
  · split at ht
    · rename_i hc; cases ht; simp only [Bool.and_eq_true] at hc; exact ⟨rfl, hc.1, hc.2⟩
    · cases ht

end Go.Eng
