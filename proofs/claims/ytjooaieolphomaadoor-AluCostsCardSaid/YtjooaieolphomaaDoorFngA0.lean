/-
  Lists of numbers as numbers: each finite row of integers has a number, from which it is read again. No program.
-/
namespace Go.Eng

def encI (x : Int) : Nat := if x < 0 then 2 * x.natAbs + 1 else 2 * x.natAbs
theorem encI_inj {x y : Int} (h : encI x = encI y) : x = y := by unfold encI at h; split at h <;> split at h <;> omega

def LZn : List Int → Nat
  | [] => 0
  | x :: l => 2 ^ (encI x) * (2 * LZn l + 1)

theorem two_odd : ∀ {a c : Nat} {b d : Nat}, 2 ^ a * (2 * b + 1) = 2 ^ c * (2 * d + 1) → a = c ∧ b = d
  | 0, 0, b, d, h => by simp at h; exact ⟨rfl, by omega⟩
  | 0, c + 1, b, d, h => by rw [Nat.pow_succ, Nat.pow_zero, Nat.one_mul, Nat.mul_comm (2 ^ c) 2, Nat.mul_assoc] at h; omega
  | a + 1, 0, b, d, h => by rw [Nat.pow_succ, Nat.pow_zero, Nat.one_mul, Nat.mul_comm (2 ^ a) 2, Nat.mul_assoc] at h; omega
  | a + 1, c + 1, b, d, h => by
    rw [Nat.pow_succ, Nat.pow_succ, Nat.mul_comm (2 ^ a) 2, Nat.mul_comm (2 ^ c) 2, Nat.mul_assoc, Nat.mul_assoc] at h
    obtain ⟨h1, h2⟩ := two_odd (Nat.eq_of_mul_eq_mul_left (by omega) h)
    exact ⟨by omega, h2⟩

theorem LZn_inj : ∀ {l m : List Int}, LZn l = LZn m → l = m
  | [], [], _ => rfl
  | [], y :: m, h => by
    simp only [LZn] at h
    have : 0 < 2 ^ encI y * (2 * LZn m + 1) := Nat.mul_pos (Nat.two_pow_pos _) (by omega)
    omega
  | x :: l, [], h => by
    simp only [LZn] at h
    have : 0 < 2 ^ encI x * (2 * LZn l + 1) := Nat.mul_pos (Nat.two_pow_pos _) (by omega)
    omega
  | x :: l, y :: m, h => by
    obtain ⟨h1, h2⟩ := two_odd h
    rw [encI_inj h1, LZn_inj h2]

def LZ (l : List Int) : Int := LZn l
theorem LZ_inj {l m : List Int} (h : LZ l = LZ m) : l = m := LZn_inj (by unfold LZ at h; omega)
open Classical in
noncomputable def ZL (c : Int) : List Int := if h : ∃ l, LZ l = c then Classical.choose h else []
theorem ZL_LZ (l : List Int) : ZL (LZ l) = l := by
  unfold ZL
  have h : ∃ m, LZ m = LZ l := ⟨l, rfl⟩
  rw [dif_pos h]
  exact LZ_inj (Classical.choose_spec h)

/-- what is read at a place: 0 beyond the end -/
noncomputable def rdZ (c i : Int) : Int := (ZL c).getD i.toNat 0
def setPad : List Int → Nat → Int → List Int
  | [], 0, x => [x]
  | [], n + 1, x => 0 :: setPad [] n x
  | _ :: l, 0, x => x :: l
  | y :: l, n + 1, x => y :: setPad l n x
theorem setPad_get : ∀ (l : List Int) (n : Nat) (x : Int) (j : Nat), (setPad l n x).getD j 0 = if j = n then x else l.getD j 0
  | [], 0, x, 0 => by simp [setPad]
  | [], 0, x, j + 1 => by simp [setPad]
  | [], n + 1, x, 0 => by simp [setPad]
  | [], n + 1, x, j + 1 => by
    have := setPad_get [] n x j
    simp only [setPad, List.getD_cons_succ, this]
    simp
  | y :: l, 0, x, 0 => by simp [setPad]
  | y :: l, 0, x, j + 1 => by simp [setPad]
  | y :: l, n + 1, x, 0 => by simp [setPad]
  | y :: l, n + 1, x, j + 1 => by
    have := setPad_get l n x j
    simp only [setPad, List.getD_cons_succ, this]
    simp
noncomputable def updZ (c i x : Int) : Int := LZ (setPad (ZL c) i.toNat x)
noncomputable def consZ (x c : Int) : Int := LZ (x :: ZL c)
def fitL (l : List Int) (n : Nat) : List Int := (List.range n).map fun i => l.getD i 0
noncomputable def appZ (c n d : Int) : Int := LZ (fitL (ZL c) n.toNat ++ ZL d)
noncomputable def dropZ (c k : Int) : Int := LZ ((ZL c).drop k.toNat)
noncomputable def repZ (n x : Int) : Int := LZ (List.replicate n.toNat x)

theorem rdZ_toNat (c i : Int) : rdZ c (i.toNat : Nat) = rdZ c i := by unfold rdZ; rw [Int.toNat_natCast]
theorem rdZ_upd (c i x j : Int) : rdZ (updZ c i x) j = if j.toNat = i.toNat then x else rdZ c j := by
  unfold rdZ updZ; rw [ZL_LZ, setPad_get]
theorem rdZ_cons_zero (x c : Int) : rdZ (consZ x c) 0 = x := by unfold rdZ consZ; rw [ZL_LZ]; rfl
theorem rdZ_cons_succ (x c : Int) {i : Int} (h : 0 < i) : rdZ (consZ x c) i = rdZ c (i - 1) := by
  unfold rdZ consZ; rw [ZL_LZ]
  obtain ⟨n, hn⟩ : ∃ n : Nat, i.toNat = n + 1 := ⟨i.toNat - 1, by omega⟩
  rw [hn, List.getD_cons_succ]
  congr 1; omega
theorem ZL_nil : ZL 0 = [] := ZL_LZ []
theorem rdZ_nil (i : Int) : rdZ 0 i = 0 := by unfold rdZ; rw [ZL_nil]; simp
theorem fitL_get (l : List Int) (n i : Nat) : (fitL l n).getD i 0 = if i < n then l.getD i 0 else 0 := by
  unfold fitL
  simp only [List.getD_eq_getElem?_getD, List.getElem?_map]
  split
  · rename_i h; simp [h]
  · rename_i h; rw [List.getElem?_eq_none (by simpa using h)]; rfl
theorem fitL_len (l : List Int) (n : Nat) : (fitL l n).length = n := by simp [fitL]
theorem rdZ_app (c n d i : Int) : rdZ (appZ c n d) i = if i.toNat < n.toNat then rdZ c i else rdZ d (i.toNat - n.toNat : Nat) := by
  unfold rdZ appZ
  rw [ZL_LZ]
  by_cases h : i.toNat < n.toNat
  · rw [if_pos h]
    rw [List.getD_eq_getElem?_getD, List.getElem?_append_left (by rw [fitL_len]; exact h), ← List.getD_eq_getElem?_getD, fitL_get, if_pos h]
  · rw [if_neg h]
    rw [List.getD_eq_getElem?_getD, List.getElem?_append_right (by rw [fitL_len]; omega), fitL_len, ← List.getD_eq_getElem?_getD]
    simp
theorem rdZ_drop (c k i : Int) : rdZ (dropZ c k) i = rdZ c (k.toNat + i.toNat : Nat) := by
  unfold rdZ dropZ
  rw [ZL_LZ, Int.toNat_natCast, List.getD_eq_getElem?_getD, List.getElem?_drop, ← List.getD_eq_getElem?_getD]
theorem rdZ_rep (n x i : Int) : rdZ (repZ n x) i = if i.toNat < n.toNat then x else 0 := by
  unfold rdZ repZ
  rw [ZL_LZ, List.getD_eq_getElem?_getD, List.getElem?_replicate]
  split <;> rfl
/-- each row has a number -/
theorem code_of (l : List Int) : ∃ c, ∀ i : Nat, i < l.length → rdZ c i = l.getD i 0 := ⟨LZ l, fun i _ => by unfold rdZ; rw [ZL_LZ]; rfl⟩

/-! ### texts of bytes -/

def strMax : Int := 140737488355328
noncomputable def slenZ (s : Int) : Int := if rdZ s 0 < 0 then 0 else if strMax < rdZ s 0 then strMax else rdZ s 0
theorem slenZ_bd (s : Int) : 0 ≤ slenZ s ∧ slenZ s ≤ strMax := by unfold slenZ strMax; split <;> (try split) <;> omega
noncomputable def sbyteZ (s i : Int) : Int := rdZ (rdZ s 1) i % 256
theorem sbyteZ_bd (s i : Int) : 0 ≤ sbyteZ s i ∧ sbyteZ s i ≤ 255 := by unfold sbyteZ; omega
noncomputable def strOf (s : Int) : ByteArray := ⟨((List.range (slenZ s).toNat).map fun (i : Nat) => UInt8.ofNat (sbyteZ s i).toNat).toArray⟩
theorem strOf_size (s : Int) : ((strOf s).size : Int) = slenZ s := by
  have := (slenZ_bd s).1
  have h : (strOf s).size = (slenZ s).toNat := by show (Array.size _) = _; simp
  omega
theorem strOf_get (s : Int) (i : Nat) (h : (i : Int) < slenZ s) : (strOf s).data[i]? = some (UInt8.ofNat (sbyteZ s i).toNat) := by
  unfold strOf
  rw [List.getElem?_toArray, List.getElem?_map, List.getElem?_range (by omega)]
  rfl
open Classical in
noncomputable def seqZ (s t : Int) : Int := if strOf s = strOf t then 1 else 0

/-- the number of a text -/
noncomputable def strZ (l : List Int) : Int := consZ l.length (consZ (LZ l) 0)

/-! ### the functions by their numbers -/

noncomputable def fL (n : Nat) (x y z : Int) : Int :=
  match n with
  | 11 => consZ x y
  | 13 => rdZ x y
  | 14 => updZ x y z
  | 16 => appZ x y z
  | 18 => dropZ x y
  | 19 => repZ x y
  | 20 => seqZ x y
  | 21 => slenZ x
  | 22 => sbyteZ x y
  | _ => 0

/-! ### rows of parts -/

def tabL {α : Type} (f : Nat → List α) : Nat → Nat → List α
  | _, 0 => []
  | i, n + 1 => f i ++ tabL f (i + 1) n

section
variable {α : Type} {f g : Nat → List α} {z : Nat}
theorem tabL_len (h : ∀ i, (f i).length = z) : ∀ (n i : Nat), (tabL f i n).length = n * z
  | 0, i => by simp [tabL]
  | n + 1, i => by simp only [tabL, List.length_append, h, tabL_len h n, Nat.add_mul, Nat.one_mul]; omega
theorem tabL_get (h : ∀ i, (f i).length = z) : ∀ (n i k r : Nat), k < n → r < z → (tabL f i n)[k * z + r]? = (f (i + k))[r]?
  | 0, i, k, r, hk, _ => by omega
  | n + 1, i, 0, r, hk, hr => by
    simp only [tabL, Nat.zero_mul, Nat.zero_add, Nat.add_zero]
    rw [List.getElem?_append_left (by rw [h]; exact hr)]
  | n + 1, i, k + 1, r, hk, hr => by
    simp only [tabL]
    rw [List.getElem?_append_right (by rw [h, Nat.add_mul]; omega), h, show (k + 1) * z + r - z = k * z + r by rw [Nat.add_mul]; omega, tabL_get h n (i + 1) k r (by omega) hr]
    congr 2; omega
theorem tabL_congr : ∀ (n i i' : Nat), (∀ k, k < n → f (i + k) = g (i' + k)) → tabL f i n = tabL g i' n
  | 0, _, _, _ => rfl
  | n + 1, i, i', h => by
    simp only [tabL]
    have h0 := h 0 (by omega)
    simp only [Nat.add_zero] at h0
    rw [h0, tabL_congr n (i + 1) (i' + 1) (fun k hk => by have := h (k + 1) (by omega); rw [show i + 1 + k = i + (k + 1) by omega, show i' + 1 + k = i' + (k + 1) by omega]; exact this)]
theorem tabL_append : ∀ (n m i : Nat), tabL f i (n + m) = tabL f i n ++ tabL f (i + n) m
  | 0, m, i => by simp [tabL]
  | n + 1, m, i => by
    rw [show n + 1 + m = (n + m) + 1 by omega]
    simp only [tabL, tabL_append n m (i + 1), List.append_assoc]
    rw [show i + 1 + n = i + (n + 1) by omega]
theorem tabL_set (h : ∀ i, (f i).length = z) (v : α) : ∀ (n i k r : Nat), k < n → r < z →
    (tabL f i n).set (k * z + r) v = tabL (fun j => if j = i + k then (f j).set r v else f j) i n
  | 0, i, k, r, hk, _ => by omega
  | n + 1, i, 0, r, hk, hr => by
    simp only [tabL, Nat.zero_mul, Nat.zero_add, Nat.add_zero]
    rw [List.set_append_left _ _ (by rw [h]; exact hr)]
    simp only [if_true]
    congr 1
    refine tabL_congr n _ _ fun k hk => ?_
    rw [if_neg (by omega)]
  | n + 1, i, k + 1, r, hk, hr => by
    simp only [tabL]
    rw [List.set_append_right _ _ (by rw [h, Nat.add_mul]; omega), h, show (k + 1) * z + r - z = k * z + r by rw [Nat.add_mul]; omega, tabL_set h v n (i + 1) k r (by omega) hr]
    rw [if_neg (by omega)]
    congr 1
    refine tabL_congr n _ _ fun j hj => ?_
    rw [show i + 1 + k = i + (k + 1) by omega]
theorem tabL_take (h : ∀ i, (f i).length = z) (n m i : Nat) (hm : m ≤ n) : (tabL f i n).take (m * z) = tabL f i m := by
  obtain ⟨d, rfl⟩ : ∃ d, n = m + d := ⟨n - m, by omega⟩
  rw [tabL_append, List.take_append_of_le_length (by rw [tabL_len h]; exact Nat.le_refl _), List.take_of_length_le (by rw [tabL_len h]; exact Nat.le_refl _)]
end

end Go.Eng
