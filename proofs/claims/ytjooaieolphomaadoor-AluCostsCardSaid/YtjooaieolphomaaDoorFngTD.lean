/-
  A symbolic executor, part TD: operations, regions, code and functions with loops whose rounds are not known.
-/
import Derived.Test.YtjooaieolphomaaDoorFngTC
set_option linter.unusedVariables false
set_option linter.unusedSimpArgs false
set_option linter.unusedSectionVars false
namespace Go.Eng

/-! ### calls -/

abbrev RT2 := TT (SV × St)
abbrev CFT := FuncId → List SV → St → RT2

def CallOkT (cx : Cx) (cf : CFT) : Prop :=
  ∀ (ρ : Env) (β : Bt) (s s' : St) (w : World) (f : FuncId) (args : List SV) (v : SV), EnvOk cx ρ → Sat ρ β s w → (cf f args s).sel ρ = some (v, s') →
    Calls cx.P f (SV.denL ρ β args).toArray w fun e w' => ∃ β', e = .returned (v.den ρ β') ∧ Sat ρ β' s' w' ∧ Ext s s' β β' w w'

def callST (cx : Cx) (cf : CFT) (ex : XF) (f : FuncId) (args : List SV) (s : St) : RT2 :=
  match ex f args with
  | some v => .leaf (v, s)
  | none => if hasBody cx f then cf f args s else .bad 30

def opCT (cx : Cx) (cf : CFT) (ex : XF) (tm : List SV) (s : St) (o : Oper) : RT2 :=
  match o.op with
  | .call c => match c.callee with
    | .value f => match evO tm f with
      | .func (.func fid) first cap => callST cx cf ex fid (first ++ c.args.toList.map (evO tm) ++ cap) s
      | _ => .bad 31
    | .invoke x name => match evO tm x with
      | .iface t v => match methodS cx t v name with
        | some (fid, rv) => callST cx cf ex fid (rv :: c.args.toList.map (evO tm)) s
        | none => .bad 32
      | _ => .bad 33
    | .builtin _ => (opS cx tm s o).lift
  | _ => (opS cx tm s o).lift

section
variable {cx : Cx} {ρ : Env} {β : Bt} {s s' : St} {w : World} {tm : List SV} {a : Act} {o : Oper} {r : SV} {cf : CFT} {ex : XF}

theorem callST_ok (hcx : CxOk cx) (hcf : CallOkT cx cf) (hex : XOk cx ex) (hρ : EnvOk cx ρ) (hs : Sat ρ β s w) {f : FuncId} {args : List SV} (h : (callST cx cf ex f args s).sel ρ = some (r, s'))
    (hrun : (execOp a.eval o).run cx.P w = (callFunc f (SV.denL ρ β args).toArray).run cx.P w) (hch : chg o.op = true) : OpGood cx.P o a w (Post cx ρ β s s' w o r) := by
  unfold callST at h
  split at h
  · rename_i v hv
    cases h
    have := hex ρ β w f args _ hρ hv
    exact (Res.good (.inl (hrun.trans this))) ⟨β, rfl, hs, Ext.refl _ _ _, fun h' => Bool.noConfusion (hch.symm.trans h')⟩
  · split at h
    · rename_i hb
      unfold hasBody at hb
      split at hb
      · rename_i fn hfn
        intro K Q hk
        unfold Oper.wp
        rw [hrun]
        have hcall : (callFunc f (SV.denL ρ β args).toArray).run cx.P w = .ok (.enter f (SV.denL ρ β args).toArray) w := by
          have hfn := cx.fnOk _ _ hfn
          have hn := hcx.nogo f fn hfn
          obtain ⟨bd, hbd⟩ := Option.isSome_iff_exists.1 hb
          simp only [callFunc, Sem.run_bind, run_program, Result.andThen_ok, hfn, hn, hbd]
          simp
        rw [hcall, Oper.upon_enter]
        refine (hcf ρ β s s' w f args r hρ hs h).mono ?_
        rintro e w' ⟨β', rfl, h1, h2⟩
        exact hk _ _ ⟨β', rfl, h1, h2, fun h' => Bool.noConfusion (hch.symm.trans h')⟩
      · cases hb
    · cases h

theorem opCT_ok (hcx : CxOk cx) (hcf : CallOkT cx cf) (hex : XOk cx ex) (hρ : EnvOk cx ρ) (ht : a.tmps = (SV.denL ρ β tm).toArray) (hs : Sat ρ β s w) (h : (opCT cx cf ex tm s o).sel ρ = some (r, s')) :
    OpGood cx.P o a w (Post cx ρ β s s' w o r) := by
  unfold opCT at h
  split at h
  · rename_i c hc
    split at h
    · rename_i f hf
      split at h
      · rename_i fid first cap hv
        refine callST_ok hcx hcf hex hρ hs h ?_ (by rw [hc]; rfl)
        obtain ⟨callee, args, ats⟩ := c
        simp only at hf
        subst hf
        simp only [execOp, hc, resolve, evO_den ht f, hv, SV.den, Deferred.ofValue, Sem.run_bind, Sem.run_pure, Result.andThen_ok, invoke, ops_map tm ht]
        congr 2
        apply Array.ext'
        simp
      · cases h
    · rename_i x name hf
      split at h
      · rename_i t v hv
        split at h
        · rename_i fid rv hm
          refine callST_ok hcx hcf hex hρ hs h ?_ (by rw [hc]; rfl)
          obtain ⟨callee, args, ats⟩ := c
          simp only at hf
          subst hf
          have hmm := methodS_ok hm ρ β w (cx.P.types.size + Made.depth - 1)
          have hdep : 0 < Made.depth := by decide
          rw [show cx.P.types.size + Made.depth - 1 + 1 = cx.P.types.size + Made.depth from by omega] at hmm
          simp only [execOp, hc, resolve, evO_den ht x, hv, SV.den, Sem.run_bind, Sem.run_pure, Result.andThen_ok, invoke, ops_map tm ht]
          simp only [callMethod, Array.getElem?_append, List.size_toArray, List.length_cons, List.length_nil]
          simp only [Nat.zero_add, Nat.zero_lt_one, if_true, List.getElem?_toArray, List.getElem?_cons_zero, Sem.run_bind, run_program, Result.andThen_ok, hmm]
          congr 2
          apply Array.ext'
          simp [SV.denL]
          rw [List.take_of_length_le (by simp)]
        · cases h
      · cases h
    · rw [T.lift_sel] at h
      exact (opS_ok hρ ht hs h).good
  · rw [T.lift_sel] at h
    exact (opS_ok hρ ht hs h).good

end

/-! ### regions in the text's order -/

abbrev RRT := TT (List SV × St)

def runOpsT (cx : Cx) (cf : CFT) (ex : XF) (ops : Array Oper) : List Oper → List SV → St → RRT
  | [], tm, s => .leaf (tm, s)
  | o :: rest, tm, s =>
    let go (s : St) : RRT := (opCT cx cf ex tm s o).bind fun r =>
      if !chg o.op || SV.scL s.bl.length tm then runOpsT cx cf ex ops rest (putS tm o.dst r.1) r.2 else .bad 40
    let pass (s : St) : RRT := runOpsT cx cf ex ops rest (putS tm o.dst undefS) s
    match wantS ops tm o with
    | .yes => go s
    | .no => pass s
    | .on e want => if want then forkT s e go pass else forkT s e pass go
    | .unk => .bad 41

section
variable {cx : Cx} {ρ : Env} {cf : CFT} {ex : XF}

theorem runOpsT_ok (hcx : CxOk cx) (hcf : CallOkT cx cf) (hex : XOk cx ex) (hρ : EnvOk cx ρ) (ops : Array Oper) : ∀ (l : List Oper) {tm tm' : List SV} {s s' : St} {β : Bt} {w : World} {a : Act} {Q : Exit → Act → World → Prop},
    a.tmps = (SV.denL ρ β tm).toArray → Sat ρ β s w → (runOpsT cx cf ex ops l tm s).sel ρ = some (tm', s') →
    (∀ a' w', Beh ρ β s w a.defers tm' s' a' w' → Q .normal a' w') → wpList cx.P ops Q l a w
  | [], tm, tm', s, s', β, w, a, Q, ht, hs, h, hQ => by
    cases h
    exact hQ _ _ ⟨β, ht, rfl, hs, Ext.refl _ _ _⟩
  | o :: rest, tm, tm', s, s', β, w, a, Q, ht, hs, h, hQ => by
    have ih := fun {tm s β w a Q} => runOpsT_ok hcx hcf hex hρ ops rest (tm := tm) (tm' := tm') (s := s) (s' := s') (β := β) (w := w) (a := a) (Q := Q)
    have hw := wantS_ok (ops := ops) (o := o) ht
    have go : ∀ s1, s1.bl = s.bl → Sat ρ β s1 w → Region.wanted o (yielded ops a.tmps) = true →
        ((opCT cx cf ex tm s1 o).bind fun r => if !chg o.op || SV.scL s1.bl.length tm then runOpsT cx cf ex ops rest (putS tm o.dst r.1) r.2 else .bad 40).sel ρ = some (tm', s') → wpList cx.P ops Q (o :: rest) a w := by
      intro s1 e1 hs1 hwant h
      obtain ⟨⟨r, s2⟩, h1, h2⟩ := TT.sel_bind_some h
      simp only [wpList, hwant, if_true]
      refine .inl (opCT_ok hcx hcf hex hρ ht hs1 h1 _ _ ?_)
      rintro V w' ⟨β', rfl, hs2, hx2, hch⟩
      split at h2
      · rename_i hc
        have htm : (SV.denL ρ β tm) = SV.denL ρ β' tm := by
          simp only [Bool.or_eq_true, Bool.not_eq_true'] at hc
          rcases hc with hc | hc
          · rw [hch hc]
          · exact (SV.denL_sc hx2.ag tm hc).symm
        rw [htm] at ht
        refine ih (putS_den ht _ _) hs2 h2 fun a' w'' hb => hQ a' w'' ?_
        rw [put_defers] at hb
        exact hb.of ((ext_kn e1 β w).trans hx2)
      · cases h2
    have pass : ∀ s1, s1.bl = s.bl → Sat ρ β s1 w → Region.wanted o (yielded ops a.tmps) = false →
        (runOpsT cx cf ex ops rest (putS tm o.dst undefS) s1).sel ρ = some (tm', s') → wpList cx.P ops Q (o :: rest) a w := by
      intro s1 e1 hs1 hwant h
      simp only [wpList, hwant, Bool.false_eq_true, if_false]
      refine ih (putS_den ht o.dst undefS) hs1 h fun a' w'' hb => hQ a' w'' ?_
      rw [put_defers] at hb
      exact hb.of (ext_kn e1 β w)
    simp only [runOpsT] at h
    cases hwd : wantS ops tm o with
    | yes => rw [hwd] at h hw; exact go s rfl hs hw h
    | no => rw [hwd] at h hw; exact pass s rfl hs hw h
    | unk => rw [hwd] at h; cases h
    | on e want =>
      rw [hwd] at h hw
      simp only at h hw
      cases want
      · simp only [Bool.false_eq_true, if_false] at h
        obtain ⟨s1, e1, hs1, ⟨hne, h⟩ | ⟨h0, h⟩⟩ := forkT_ok hs h
        · exact pass s1 e1 hs1 (by rw [hw]; simpa using hne) h
        · exact go s1 e1 hs1 (by rw [hw]; simpa using h0) h
      · simp only [if_true] at h
        obtain ⟨s1, e1, hs1, ⟨hne, h⟩ | ⟨h0, h⟩⟩ := forkT_ok hs h
        · exact go s1 e1 hs1 (by rw [hw]; simpa using hne) h
        · exact pass s1 e1 hs1 (by rw [hw]; simpa using h0) h

end

/-! ### loops -/

abbrev RCT := TT (Ex × List SV × St)

def loopU (body : List SV → St → RCT) : Nat → List SV → St → RCT
  | 0, _, _ => .bad 70
  | n + 1, tm, s => (body tm s).bind fun r => match r.1 with
    | .normal => loopU body n r.2.1 r.2.2
    | e => .leaf (e, r.2)

/-- what must hold of the numbers that come to a head -/
def bdOb (cx : Cx) : List (Option (Int × Int)) → List E → List E
  | some p :: l, e :: m => if ivIn (e.iv cx) p.1 p.2 then bdOb cx l m else leE cx (.c p.1) e :: leE cx e (.c p.2) :: bdOb cx l m
  | none :: l, _ :: m => bdOb cx l m
  | _, _ => []
theorem bdOb_ok {cx : Cx} {ρ : Env} (hρ : EnvOk cx ρ) : ∀ {l : List (Option (Int × Int))} {m : List E}, l.length = m.length → (∀ c ∈ bdOb cx l m, c.ev ρ ≠ 0) → inBd l (m.map (E.ev ρ))
  | [], [], _, _ => trivial
  | none :: l, e :: m, hl, h => ⟨trivial, bdOb_ok hρ (by simpa using hl) h⟩
  | some p :: l, e :: m, hl, h => by
    simp only [bdOb] at h
    split at h
    · rename_i hi
      exact ⟨ivIn_ok hi (E.iv_ok hρ e), bdOb_ok hρ (by simpa using hl) h⟩
    · have h1 := leE_ne hρ (h _ List.mem_cons_self)
      have h2 := leE_ne hρ (h _ (List.mem_cons_of_mem _ List.mem_cons_self))
      exact ⟨⟨h1, h2⟩, bdOb_ok hρ (by simpa using hl) fun c hc => h c (List.mem_cons_of_mem _ (List.mem_cons_of_mem _ hc))⟩
  | [], _ :: _, hl, _ => by simp at hl
  | none :: _, [], hl, _ => by simp at hl
  | some _ :: _, [], hl, _ => by simp at hl

def obTB : List E → TB → TB
  | [], t => t
  | .c n :: l, t => if n ≠ 0 then obTB l t else .bad 303
  | e :: l, t => .br e (obTB l t) (.bad 303)
theorem obTB_sel {ρ : Env} : ∀ {l : List E} {t : TB} {r : List Int ⊕ Nat}, (obTB l t).sel ρ = some r → t.sel ρ = some r ∧ ∀ c ∈ l, c.ev ρ ≠ 0
  | [], t, r, h => ⟨h, fun c hc => by cases hc⟩
  | e :: l, t, r, h => by
    have key : (∀ n, e = .c n → n ≠ 0 ∧ (obTB l t).sel ρ = some r) ∧ ((∀ n, e ≠ .c n) → e.ev ρ ≠ 0 ∧ (obTB l t).sel ρ = some r) := by
      constructor
      · rintro n rfl
        simp only [obTB] at h
        split at h
        · exact ⟨by assumption, h⟩
        · cases h
      · intro hn
        have : obTB (e :: l) t = .br e (obTB l t) (.bad 303) := by
          cases e <;> first | rfl | exact absurd rfl (hn _)
        rw [this] at h
        simp only [TB.sel] at h
        split at h
        · exact ⟨by assumption, h⟩
        · cases h
    by_cases hc : ∃ n, e = .c n
    · obtain ⟨n, rfl⟩ := hc
      obtain ⟨h1, h2⟩ := key.1 n rfl
      obtain ⟨h3, h4⟩ := obTB_sel h2
      refine ⟨h3, fun c hc => ?_⟩
      rcases List.mem_cons.1 hc with rfl | hc
      · exact h1
      · exact h4 c hc
    · obtain ⟨h1, h2⟩ := key.2 fun n hn => hc ⟨n, hn⟩
      obtain ⟨h3, h4⟩ := obTB_sel h2
      refine ⟨h3, fun c hc => ?_⟩
      rcases List.mem_cons.1 hc with rfl | hc
      · exact h1
      · exact h4 c hc

structure LC where
  cx : Cx
  base : Nat
  n0 : Nat
  hd : Hd

def LC.ab (c : LC) (tm : List SV) (s : St) : Ab := abOf c.base c.hd (unify c.cx c.base c.n0 c.hd tm s)
def LC.chk (c : LC) (a : Ab) (tm : List SV) (s : St) : Bool := a.check c.cx c.n0 c.hd.tm c.hd.bl tm s && Nat.beq a.bds.length a.es.length

/-- a round's tree: back to the head, or a way out -/
def LC.conv (c : LC) : Nat → RCT → TB × List (Ex × List SV × St)
  | k, .leaf (.normal, tm, s) => let a := c.ab tm s; (if c.chk a tm s then obTB (bdOb c.cx a.bds a.es) (.back a.es) else .bad 302, [])
  | k, .leaf r => (.exit k, [r])
  | k, .br e t f => let x := c.conv k t; let y := c.conv (k + x.2.length) f; (.br e x.1 y.1, x.2 ++ y.2)
  | _, .bad n => (.bad n, [])
  | k, .new i e t => let x := c.conv k t; (.new i e x.1, x.2)
  | k, .loop L b r => let x := c.conv k r; (.loop L b x.1, x.2)

def exTree (x : Nat) : Nat → List (Ex × List SV × St) → RCT
  | _, [] => .bad 304
  | _, [r] => .leaf r
  | i, r :: l => .br (.b .eq .i64 (.v x) (.c i)) (.leaf r) (exTree x (i + 1) l)

def mark (i : Nat) (s : St) : St := { s with kn := (.b .eq .i64 (.cl i 0 0) (.cl i 0 0), true) :: s.kn }

/-- a loop, told by a head -/
def loopT (cx : Cx) (mk0 : Option Marks) (body : List SV → St → RCT) (tm : List SV) (s : St) : RCT :=
  let base := nextN s.kn
  let mk := match mk0 with
    | some mk => mk
    | none => inferL cx body base tm s 8 false []
  let hd := mkHead mk base tm s
  let c : LC := ⟨cx, base, s.bl.length, hd⟩
  let a0 := c.ab tm s
  let t := body hd.tm (mark (base + hd.bds.length) { s with bl := hd.bl })
  let x := TT.top t (base + hd.bds.length) + 1
  let r := c.conv 0 t
  if c.chk a0 tm s && cx.okB base && knVb base s.kn then
    (bdOb cx a0.bds a0.es).foldr (fun e t => match e with
      | .c n => if n ≠ 0 then t else .bad 305
      | e => .br e t (.bad 305)) (.loop ⟨base, hd.bds, a0.es, x⟩ r.1 (exTree x 0 (r.2.map fun q => (q.1, q.2.1, mark (x + 1) q.2.2))))
  else .bad 301

section
variable {cx : Cx} {ρ : Env}

def CodeOkT (cx : Cx) (body : List SV → St → RCT) (c : Code) : Prop :=
  ∀ (ρ : Env) (tm tm' : List SV) (s s' : St) (x : Ex) (β : Bt) (w : World) (a : Act) (Q : Exit → Act → World → Prop), EnvOk cx ρ →
    a.tmps = (SV.denL ρ β tm).toArray → Sat ρ β s w → (body tm s).sel ρ = some (x, tm', s') →
    (∀ a' w', Beh ρ β s w a.defers tm' s' a' w' → Q x.to a' w') → c.wp cx.P Q a w

theorem loopU_ok {body : List SV → St → RCT} {c : Code} (hb : CodeOkT cx body c) (hρ : EnvOk cx ρ) : ∀ (n : Nat) {tm tm' : List SV} {s s' : St} {x : Ex} {β : Bt} {w : World} {a : Act} {Q : Exit → Act → World → Prop},
    a.tmps = (SV.denL ρ β tm).toArray → Sat ρ β s w → (loopU body n tm s).sel ρ = some (x, tm', s') →
    (∀ a' w', Beh ρ β s w a.defers tm' s' a' w' → Q x.to a' w') → Code.rounds cx.P c Q n a w
  | 0, tm, tm', s, s', x, β, w, a, Q, ht, hs, h, hQ => by cases h
  | n + 1, tm, tm', s, s', x, β, w, a, Q, ht, hs, h, hQ => by
    simp only [loopU] at h
    obtain ⟨⟨x1, tm1, s1⟩, h1, h2⟩ := TT.sel_bind_some h
    rw [rounds_succ]
    refine hb _ _ _ _ _ _ _ _ _ _ hρ ht hs h1 ?_
    rintro a' w' ⟨β', ht', hd', hs', hx'⟩
    cases x1 with
    | normal =>
      refine loopU_ok hb hρ n ht' hs' h2 fun a2 w2 hb2 => hQ a2 w2 ?_
      rw [hd'] at hb2
      exact hb2.of hx'
    | exit id => cases h2; exact hQ _ _ ⟨β', ht', hd', hs', hx'⟩
    | ret => cases h2; exact hQ _ _ ⟨β', ht', hd', hs', hx'⟩

theorem conv_out {c : LC} : ∀ {t : RCT} {k n : Nat}, (c.conv k t).1.sel ρ = some (.inr n) → k ≤ n ∧ ∃ r, (c.conv k t).2[n - k]? = some r ∧ t.sel ρ = some r ∧ r.1 ≠ .normal
  | .leaf (.normal, tm, s), k, n, h => by
    simp only [LC.conv] at h
    split at h
    · obtain ⟨h1, _⟩ := obTB_sel h
      cases h1
    · cases h
  | .leaf (.exit i, r), k, n, h => by
    simp only [LC.conv, TB.sel, Option.some.injEq, Sum.inr.injEq] at h
    subst h
    exact ⟨Nat.le_refl _, _, by simp [LC.conv], rfl, by simp⟩
  | .leaf (.ret, r), k, n, h => by
    simp only [LC.conv, TB.sel, Option.some.injEq, Sum.inr.injEq] at h
    subst h
    exact ⟨Nat.le_refl _, _, by simp [LC.conv], rfl, by simp⟩
  | .br e t f, k, n, h => by
    simp only [LC.conv, TB.sel] at h
    split at h
    · rename_i hc
      obtain ⟨h1, r, h2, h3, h4⟩ := conv_out h
      refine ⟨h1, r, ?_, by simp only [TT.sel]; rw [if_pos hc]; exact h3, h4⟩
      simp only [LC.conv]
      rw [List.getElem?_append_left ((List.getElem?_eq_some_iff.1 h2).1)]
      exact h2
    · rename_i hc
      obtain ⟨h1, r, h2, h3, h4⟩ := conv_out h
      refine ⟨by omega, r, ?_, by simp only [TT.sel]; rw [if_neg hc]; exact h3, h4⟩
      simp only [LC.conv]
      rw [List.getElem?_append_right (by omega), show n - k - (c.conv k t).2.length = n - (k + (c.conv k t).2.length) by omega]
      exact h2
  | .bad m, k, n, h => by cases h
  | .new i e t, k, n, h => by
    simp only [LC.conv, TB.sel] at h
    split at h
    · rename_i hc
      obtain ⟨h1, r, h2, h3, h4⟩ := conv_out h
      exact ⟨h1, r, h2, by simp only [TT.sel]; rw [if_pos hc]; exact h3, h4⟩
    · cases h
  | .loop L b t, k, n, h => by
    simp only [LC.conv, TB.sel] at h
    split at h
    · rename_i hc
      obtain ⟨h1, r, h2, h3, h4⟩ := conv_out h
      exact ⟨h1, r, h2, by simp only [TT.sel]; rw [if_pos hc]; exact h3, h4⟩
    · cases h

theorem conv_back {c : LC} (hρ : EnvOk c.cx ρ) : ∀ {t : RCT} {k : Nat} {σ : List Int}, (c.conv k t).1.sel ρ = some (.inl σ) → ∃ tm s, t.sel ρ = some (.normal, tm, s) ∧ c.chk (c.ab tm s) tm s = true ∧ σ = (c.ab tm s).es.map (E.ev ρ) ∧ inBd (c.ab tm s).bds σ
  | .leaf (.normal, tm, s), k, σ, h => by
    simp only [LC.conv] at h
    split at h
    · rename_i hc
      obtain ⟨h1, h2⟩ := obTB_sel h
      simp only [TB.sel, Option.some.injEq, Sum.inl.injEq] at h1
      refine ⟨tm, s, rfl, hc, h1.symm, ?_⟩
      rw [← h1]
      simp only [LC.chk, Bool.and_eq_true] at hc
      exact bdOb_ok hρ (Nat.eq_of_beq_eq_true hc.2) h2
    · cases h
  | .leaf (.exit i, r), k, n, h => by simp [LC.conv, TB.sel] at h
  | .leaf (.ret, r), k, n, h => by simp [LC.conv, TB.sel] at h
  | .br e t f, k, n, h => by
    simp only [LC.conv, TB.sel] at h
    split at h
    · rename_i hc
      obtain ⟨tm, s, h1, h2⟩ := conv_back hρ h
      exact ⟨tm, s, by simp only [TT.sel]; rw [if_pos hc]; exact h1, h2⟩
    · rename_i hc
      obtain ⟨tm, s, h1, h2⟩ := conv_back hρ h
      exact ⟨tm, s, by simp only [TT.sel]; rw [if_neg hc]; exact h1, h2⟩
  | .bad m, k, n, h => by cases h
  | .new i e t, k, n, h => by
    simp only [LC.conv, TB.sel] at h
    split at h
    · rename_i hc
      obtain ⟨tm, s, h1, h2⟩ := conv_back hρ h
      exact ⟨tm, s, by simp only [TT.sel]; rw [if_pos hc]; exact h1, h2⟩
    · cases h
  | .loop L b t, k, n, h => by
    simp only [LC.conv, TB.sel] at h
    split at h
    · rename_i hc
      obtain ⟨tm, s, h1, h2⟩ := conv_back hρ h
      exact ⟨tm, s, by simp only [TT.sel]; rw [if_pos hc]; exact h1, h2⟩
    · cases h

theorem exTree_sel {x : Nat} : ∀ {l : List (Ex × List SV × St)} {i k : Nat} {r q : Ex × List SV × St}, l[k]? = some q → ρ.i x = ((i + k : Nat) : Int) → (exTree x i l).sel ρ = some r → r = q
  | [], i, k, r, q, hk, _, _ => by simp at hk
  | [p], i, 0, r, q, hk, _, h => by
    simp at hk; subst hk
    simp only [exTree, TT.sel, Option.some.injEq] at h
    exact h.symm
  | [p], i, k + 1, r, q, hk, _, _ => by simp at hk
  | p :: p2 :: l, i, 0, r, q, hk, hx, h => by
    simp at hk; subst hk
    simp only [exTree, TT.sel, E.ev, BO.ev, hx, bool01] at h
    simp at h
    exact h.symm
  | p :: p2 :: l, i, k + 1, r, q, hk, hx, h => by
    simp only [exTree, TT.sel, E.ev, BO.ev, hx, bool01] at h
    have hne : ((((i + (k + 1) : Nat) : Int)) == (i : Int)) = false := by simp; omega
    rw [hne] at h
    simp only [Bool.false_eq_true, if_false, ne_eq, not_true_eq_false] at h
    exact exTree_sel (l := p2 :: l) (i := i + 1) (k := k) (by simpa using hk) (by rw [hx]; congr 1; omega) h

theorem foldr_sel {t : RCT} {r : Ex × List SV × St} : ∀ {l : List E}, (l.foldr (fun e t => match e with
      | .c n => if n ≠ 0 then t else .bad 305
      | e => .br e t (.bad 305)) t).sel ρ = some r → t.sel ρ = some r ∧ ∀ c ∈ l, c.ev ρ ≠ 0
  | [], h => ⟨h, fun c hc => by cases hc⟩
  | e :: l, h => by
    simp only [List.foldr_cons] at h
    split at h
    · rename_i n
      split at h
      · rename_i hn
        obtain ⟨h1, h2⟩ := foldr_sel h
        refine ⟨h1, fun c hc => ?_⟩
        rcases List.mem_cons.1 hc with rfl | hc
        · exact hn
        · exact h2 c hc
      · cases h
    · simp only [TT.sel] at h
      split at h
      · rename_i hn
        obtain ⟨h1, h2⟩ := foldr_sel h
        refine ⟨h1, fun c hc => ?_⟩
        rcases List.mem_cons.1 hc with rfl | hc
        · exact hn
        · exact h2 c hc
      · cases h

theorem mark_kn {ρ : Env} {i : Nat} {s : St} (h : ∀ e b, (e, b) ∈ s.kn → (e.ev ρ != 0) = b) : ∀ e b, (e, b) ∈ (mark i s).kn → (e.ev ρ != 0) = b := by
  intro e b hm
  rcases List.mem_cons.1 hm with hm | hm
  · cases hm
    simp [E.ev, BO.ev, bool01]
  · exact h e b hm

theorem loopT_ok {mk0 : Option Marks} {body : List SV → St → RCT} {c : Code} (hb : CodeOkT cx body c) (hρ : EnvOk cx ρ) {tm tm' : List SV} {s s' : St} {x : Ex} {β : Bt} {w : World} {a : Act} {Q : Exit → Act → World → Prop}
    (ht : a.tmps = (SV.denL ρ β tm).toArray) (hs : Sat ρ β s w) (h : (loopT cx mk0 body tm s).sel ρ = some (x, tm', s'))
    (hQ : ∀ a' w', Beh ρ β s w a.defers tm' s' a' w' → Q x.to a' w') : (Code.loop c).wp cx.P Q a w := by
  unfold loopT at h
  simp only at h
  generalize hmk : (match mk0 with
    | some mk => mk
    | none => inferL cx body (nextN s.kn) tm s 8 false []) = mk at h
  generalize hhd : mkHead mk (nextN s.kn) tm s = hd at h
  generalize hbase : nextN s.kn = base at h hhd
  split at h
  case isFalse => cases h
  rename_i hc
  simp only [Bool.and_eq_true] at hc
  obtain ⟨⟨hchk, hok⟩, hkn⟩ := hc
  obtain ⟨h, hbd⟩ := foldr_sel h
  have hlc : ∀ tm s', (LC.mk cx base s.bl.length hd).ab tm s' = abOf base hd (unify cx base s.bl.length hd tm s') := fun _ _ => rfl
  have hab : ∀ tm s', ((LC.mk cx base s.bl.length hd).ab tm s').base = base ∧ ((LC.mk cx base s.bl.length hd).ab tm s').bds = hd.bds := fun _ _ => ⟨rfl, rfl⟩
  have hchk0 := hchk
  simp only [LC.chk, Bool.and_eq_true] at hchk
  have hin0 := bdOb_ok hρ (Nat.eq_of_beq_eq_true hchk.2) hbd
  -- the head's state
  generalize hsH : mark (base + hd.bds.length) { s with bl := hd.bl } = sH at h
  have hsHbl : sH.bl = hd.bl := by rw [← hsH]; rfl
  have hkH : ∀ ρ', Agn base ρ ρ' → ∀ e b, (e, b) ∈ sH.kn → (e.ev ρ' != 0) = b := by
    intro ρ' hag
    rw [← hsH]
    refine mark_kn fun e b hm => ?_
    have := List.all_eq_true.1 hkn _ hm
    rw [E.vb_ev hag e this]
    exact hs.kn e b hm
  simp only [TT.sel] at h
  split at h
  case isFalse => cases h
  rename_i hch
  generalize hL : (Lp.mk base hd.bds ((LC.mk cx base s.bl.length hd).ab tm s).es (TT.top (body hd.tm sH) (base + hd.bds.length) + 1)) = L at h hch
  have hLv : ∀ ρ', L.vals ρ' = (List.range hd.bds.length).map (fun k => ρ'.i (base + k)) := by intro ρ'; rw [← hL]; rfl
  have hLb : L.bds = hd.bds := by rw [← hL]
  have hLB : L.base = base := by rw [← hL]
  -- what is kept from round to round
  let Inv : List Int → Act → World → Prop := fun σ a' w' => a'.defers = a.defers ∧ ∃ βH, Ext s sH β βH w w' ∧ ∀ ρ', Agn base ρ ρ' → L.vals ρ' = σ → a'.tmps = (SV.denL ρ' βH hd.tm).toArray ∧ Sat ρ' βH sH w'
  have hback : ∀ (ρ1 : Env), EnvOk cx ρ1 → Agn base ρ ρ1 → ∀ (tm1 : List SV) (s1 : St) (β1 : Bt) (w1 : World) (a1 : Act), (LC.mk cx base s.bl.length hd).chk ((LC.mk cx base s.bl.length hd).ab tm1 s1) tm1 s1 = true →
      inBd hd.bds (((LC.mk cx base s.bl.length hd).ab tm1 s1).es.map (E.ev ρ1)) → a1.tmps = (SV.denL ρ1 β1 tm1).toArray → a1.defers = a.defers → Sat ρ1 β1 s1 w1 → Ext s s1 β β1 w w1 →
      Inv (((LC.mk cx base s.bl.length hd).ab tm1 s1).es.map (E.ev ρ1)) a1 w1 := by
    intro ρ1 hρ1 hag1 tm1 s1 β1 w1 a1 hck hin ht1 hd1 hs1 hx1
    simp only [LC.chk, Bool.and_eq_true] at hck
    have hck2 : ((LC.mk cx base s.bl.length hd).ab tm1 s1).check cx s.bl.length hd.tm sH.bl tm1 s1 = true := by rw [hsHbl]; exact hck.1
    obtain ⟨k1, k2⟩ := check_ok hρ1 hck2 hs1 hx1 hin
    refine ⟨hd1, _, k1, fun ρ' hag hv => ?_⟩
    have hag2 : Agn base ρ1 ρ' := hag1.symm.trans hag
    obtain ⟨k3, k4⟩ := k2 ρ' hag2 ((hLv ρ').symm.trans hv) (hkH ρ' hag)
    exact ⟨by rw [ht1, ← k3], k4⟩
  have hinit : Inv (L.init.map (E.ev ρ)) a w := by
    rw [← hL]
    exact hback ρ hρ (Agn.refl _ _) tm s β w a hchk0 hin0 ht rfl hs (Ext.refl _ _ _)
  have key : ∀ σ, Chain (fun ρ' => ((LC.mk cx base s.bl.length hd).conv 0 (body hd.tm sH)).1.sel ρ') L ρ σ → ∃ n, ∀ a' w', Inv σ a' w' → Code.rounds cx.P c Q n a' w' := by
    intro σ hch
    induction hch with
    | @last n hsel hxid =>
      refine ⟨1, fun a' w' hinv => ?_⟩
      obtain ⟨hd', βH, hxH, hH⟩ := hinv
      obtain ⟨ht', hs'⟩ := hH ρ (Agn.refl _ _) rfl
      obtain ⟨_, q, hq1, hq2, hq3⟩ := conv_out hsel
      rw [Nat.sub_zero] at hq1
      have hr := exTree_sel (x := TT.top (body hd.tm sH) (base + hd.bds.length) + 1) (i := 0) (k := n) (q := (q.1, q.2.1, mark (TT.top (body hd.tm sH) (base + hd.bds.length) + 1 + 1) q.2.2)) (by rw [List.getElem?_map, hq1]; rfl) (by
        rw [Nat.zero_add, ← hxid, ← hL]) h
      cases hr
      rw [rounds_succ]
      refine hb ρ _ _ _ _ _ _ _ _ _ hρ ht' hs' hq2 ?_
      rintro a2 w2 ⟨β2, ht2, hd2, hs2, hx2⟩
      have hbeh : Beh ρ β s w a.defers q.2.1 (mark (TT.top (body hd.tm sH) (base + hd.bds.length) + 1 + 1) q.2.2) a2 w2 := by
        refine ⟨β2, ht2, hd2.trans hd', ⟨hs2.blk, hs2.inj, mark_kn hs2.kn, hs2.ro⟩, ?_⟩
        exact (hxH.trans hx2).trans (ext_kn (s := q.2.2) (s1 := mark (TT.top (body hd.tm sH) (base + hd.bds.length) + 1 + 1) q.2.2) rfl β2 w2)
      have := hQ a2 w2 hbeh
      obtain ⟨qx, qr⟩ := q
      cases qx with
      | normal => exact absurd rfl hq3
      | exit id => exact this
      | ret => exact this
    | @step σ' ρ' hag hsel _ ih =>
      obtain ⟨n, ih⟩ := ih
      refine ⟨n + 1, fun a' w' hinv => ?_⟩
      obtain ⟨hd', βH, hxH, hH⟩ := hinv
      rw [hLB] at hag
      have hρ' : EnvOk cx ρ' := EnvOk.agn hok hρ hag
      obtain ⟨ht', hs'⟩ := hH ρ' hag rfl
      obtain ⟨tm1, s1, h1, h2, h3, h4⟩ := conv_back (c := LC.mk cx base s.bl.length hd) hρ' hsel
      rw [rounds_succ]
      refine hb ρ' _ _ _ _ _ _ _ _ _ hρ' ht' hs' h1 ?_
      rintro a2 w2 ⟨β2, ht2, hd2, hs2, hx2⟩
      refine ih a2 w2 ?_
      rw [h3]
      refine hback ρ' hρ' hag tm1 s1 β2 w2 a2 h2 ?_ ht2 (hd2.trans hd') hs2 (hxH.trans hx2)
      rw [← h3]; exact h4
  have hch' : Chain (fun ρ' => ((LC.mk cx base s.bl.length hd).conv 0 (body hd.tm sH)).1.sel ρ') L ρ (L.init.map (E.ev ρ)) := by
    rw [← hL] at hch ⊢
    exact hch
  obtain ⟨n, hn⟩ := key _ hch'
  exact wp_loop_rounds n (hn a w hinit)

end

end Go.Eng
