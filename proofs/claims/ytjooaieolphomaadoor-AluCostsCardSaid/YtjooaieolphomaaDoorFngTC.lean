/-
  A symbolic executor, part TC: a loop's head is made; what it stands for is found (nothing here is trusted: part TB checks).
-/
import Derived.Test.YtjooaieolphomaaDoorFngTB
set_option linter.unusedVariables false
set_option linter.unusedSimpArgs false
set_option linter.unusedSectionVars false
namespace Go.Eng

/-- how a place of the entry is told at the head -/
inductive Mk where
  | num (lo hi : Int)
  | code
  | wild
  | arr (cks : List CK) (el : TypeId)
  | move
  deriving Inhabited

abbrev Marks := List (List Nat × Mk)

def keyEq : List Nat → List Nat → Bool
  | [], [] => true
  | a :: l, b :: m => Nat.beq a b && keyEq l m
  | _, _ => false
def findMk : Marks → List Nat → Option Mk
  | [], _ => none
  | (k, m) :: l, κ => if keyEq k κ then some m else findMk l κ

structure HS where
  nx : Nat
  bds : List (Option (Int × Int))
  bl : List SBlk
  mv : List (Nat × Nat)
  gn : List Nat

def mvOf : List (Nat × Nat) → Nat → Nat
  | [], j => j
  | (a, b) :: l, j => if Nat.beq a j then b else mvOf l j

def hdE (mk : Marks) (κ : List Nat) (e : E) (h : HS) : E × HS :=
  match findMk mk κ with
  | some (.num lo hi) => (.cl h.nx lo hi, { h with nx := h.nx + 1, bds := some (lo, hi) :: h.bds })
  | some .code => (.v h.nx, { h with nx := h.nx + 1, bds := none :: h.bds })
  | _ => (e, h)

def goneOf : SV → List Nat
  | .sl (.own j) _ _ _ _ => [j]
  | .slice j _ _ _ => [j]
  | _ => []

mutual
def hdSV (mk : Marks) (κ : List Nat) (x : SV) (h : HS) : SV × HS :=
  match findMk mk κ with
  | some .wild => (.wild h.bl.length, { h with bl := h.bl ++ [.gone] })
  | some (.arr cks el) =>
    let n : E := .cl (h.nx + 1) 0 1000000
    (.sl (.own h.bl.length) cks.length (.c 0) n none, { h with nx := h.nx + 2, bds := some (0, 1000000) :: none :: h.bds, bl := h.bl ++ [.arr cks el (.v h.nx) n], gn := goneOf x ++ h.gn })
  | some (.num lo hi) => (match x with
    | .int k _ => (.int k (.cl h.nx lo hi), { h with nx := h.nx + 1, bds := some (lo, hi) :: h.bds })
    | .bool _ => (.bool (.cl h.nx 0 1), { h with nx := h.nx + 1, bds := some (0, 1) :: h.bds })
    | x => (x, h))
  | some .code => (match x with
    | .str _ => (.str (.v h.nx), { h with nx := h.nx + 1, bds := none :: h.bds })
    | .lit _ => (.str (.v h.nx), { h with nx := h.nx + 1, bds := none :: h.bds })
    | x => (x, h))
  | _ => (match x with
    | .ptr j o => (.ptr (mvOf h.mv j) o, h)
    | .slice j o l c => (.slice (mvOf h.mv j) o l c, h)
    | .sl b z o l c =>
      let r := hdE mk (κ ++ [0]) o h
      let r2 := hdE mk (κ ++ [1]) l r.2
      (.sl (match b with | .own j => .own (mvOf h.mv j) | b => b) z r.1 r2.1 c, r2.2)
    | .func f a c =>
      let r := hdL mk (κ ++ [0]) 0 a h
      let r2 := hdL mk (κ ++ [1]) 0 c r.2
      (.func f r.1 r2.1, r2.2)
    | .iface t x => let r := hdSV mk (κ ++ [0]) x h; (.iface t r.1, r.2)
    | .agg l => let r := hdL mk κ 0 l h; (.agg r.1, r.2)
    | .tup l => let r := hdL mk κ 0 l h; (.tup r.1, r.2)
    | x => (x, h))
def hdL (mk : Marks) (κ : List Nat) (i : Nat) (l : List SV) (h : HS) : List SV × HS :=
  match l with
  | [] => ([], h)
  | x :: l =>
    let r := hdSV mk (κ ++ [i]) x h
    let r2 := hdL mk κ (i + 1) l r.2
    (r.1 :: r2.1, r2.2)
end

def hdBl (mk : Marks) : Nat → List SBlk → HS → HS
  | _, [], h => h
  | j, b :: l, h => hdBl mk (j + 1) l (match b with
    | .gone => h
    | .cells L e o =>
      let r := hdL mk [1, j] 0 L h
      { r.2 with bl := r.2.bl.set (mvOf h.mv j) (.cells r.1 e o) }
    | .arr k e q n =>
      let r := hdE mk [1, j, 0] q h
      let r2 := hdE mk [1, j, 1] n r.2
      { r2.2 with bl := r2.2.bl.set (mvOf h.mv j) (.arr k e r.1 r2.1) })

mutual
def getSV : SV → List Nat → Option SV
  | x, [] => some x
  | .func _ a _, 0 :: i :: κ => getL a i κ
  | .func _ _ c, 1 :: i :: κ => getL c i κ
  | .iface _ x, 0 :: κ => getSV x κ
  | .agg l, i :: κ => getL l i κ
  | .tup l, i :: κ => getL l i κ
  | _, _ => none
def getL : List SV → Nat → List Nat → Option SV
  | [], _, _ => none
  | x :: _, 0, κ => getSV x κ
  | _ :: l, i + 1, κ => getL l i κ
end
def getK (tm : List SV) (s : St) (κ : List Nat) : Option SV :=
  match κ with
  | 0 :: i :: κ => getL tm i κ
  | 1 :: j :: i :: κ => match s.bl[j]? with
    | some (.cells l _ _) => getL l i κ
    | _ => none
  | _ => none

def movesOf (tm : List SV) (s : St) : Marks → List Nat → List Nat
  | [], acc => acc.reverse
  | (κ, .move) :: l, acc => movesOf tm s l (match getK tm s κ with
    | some (.ptr j _) => if acc.contains j then acc else j :: acc
    | _ => acc)
  | _ :: l, acc => movesOf tm s l acc

def setGone : List Nat → List SBlk → List SBlk
  | [], l => l
  | j :: js, l => setGone js (l.set j .gone)

def zipN : List Nat → Nat → List (Nat × Nat)
  | [], _ => []
  | j :: l, n => (j, n) :: zipN l (n + 1)

structure Hd where
  tm : List SV
  bl : List SBlk
  bds : List (Option (Int × Int))
  mv : List (Nat × Nat)

def mkHead (mk : Marks) (base : Nat) (tm : List SV) (s : St) : Hd :=
  let js := movesOf tm s mk []
  let n := s.bl.length
  let mv := zipN js n
  let r := hdL mk [0] 0 tm ⟨base, [], s.bl ++ List.replicate js.length .gone, mv, js⟩
  let h := hdBl mk 0 s.bl r.2
  ⟨r.1, setGone h.gn h.bl, h.bds.reverse, mv⟩

/-! ### what the head stands for -/

structure US where
  es : List (Nat × E)
  mp : List (Nat × Tgt)
  mks : Marks
  todo : List (Nat × Nat)

structure UC where
  cx : Cx
  base : Nat
  n0 : Nat
  hd : Hd
  s : St

def lookN2 : List (Nat × E) → Nat → Option E
  | [], _ => none
  | (i, e) :: l, j => if Nat.beq i j then some e else lookN2 l j
def hasT : List (Nat × Tgt) → Nat → Bool
  | [], _ => false
  | (i, _) :: l, j => Nat.beq i j || hasT l j

def addMk (κ : List Nat) (m : Mk) (u : US) : US := { u with mks := (κ, m) :: u.mks }

def UC.uE (c : UC) (κ : List Nat) (d : Mk) (eH e : E) (u : US) : US :=
  let name (i : Nat) : US := match lookN2 u.es (i - c.base) with
    | some _ => u
    | none => { u with es := (i - c.base, e) :: u.es }
  match eH with
  | .cl i _ _ => if Nat.ble c.base i then name i else if eH.beq e then u else addMk κ d u
  | .v i => if Nat.ble c.base i then name i else if eH.beq e then u else addMk κ d u
  | eH => if eH.beq e then u else addMk κ d u

/-- the make of a row's parts, off what lies there -/
def arrOf (cx : Cx) (s : St) : SV → Option (List CK × TypeId)
  | .sl (.own j) _ _ _ _ => match s.bl[j]? with
    | some (.arr k e _ _) => some (k, e)
    | _ => none
  | .slice j _ _ _ => match s.bl[j]? with
    | some (.cells _ e _) => (cksOf cx 6 e).map fun k => (k, e)
    | _ => none
  | _ => none
def markArr (cx : Cx) (s : St) (κ : List Nat) (x y : SV) (u : US) : US :=
  match arrOf cx s y with
  | some (k, e) => addMk κ (.arr k e) u
  | none => match arrOf cx s x with
    | some (k, e) => addMk κ (.arr k e) u
    | none => addMk κ .wild u

def kindMk (k : IntKind) : Mk := .num (klo k) (khi k)

mutual
def UC.uSV (c : UC) (κ : List Nat) (x y : SV) (u : US) : US :=
  match x, y with
  | .wild i, y => if hasT u.mp i || Nat.blt i c.n0 then u else { u with mp := (i, .val y) :: u.mp }
  | .int k e, .int k' e' => if k = k' then c.uE κ (kindMk k) e e' u else addMk κ .wild u
  | .bool e, .bool e' => c.uE κ (.num 0 1) e e' u
  | .str e, .str e' => c.uE κ .code e e' u
  | .lit (.string a), .lit (.string b) => if decide (a = b) then u else addMk κ .code u
  | .lit (.string _), .str _ => addMk κ .code u
  | .str e, .lit (.string b) => c.uE κ .code e (strLit b) u
  | .ptr i o, .ptr j o' =>
    if !(Nat.beq o o') then addMk κ .wild u
    else if Nat.beq i j && Nat.blt i c.n0 then { u with todo := (i, j) :: u.todo }
    else if Nat.ble c.n0 i then (if hasT u.mp i then u else { u with mp := (i, .idx j) :: u.mp, todo := (i, j) :: u.todo })
    else addMk κ .move u
  | .slice i o l q, .slice j o' l' q' => if Nat.beq i j && Nat.beq o o' && Nat.beq l l' && decide (q = q') then { u with todo := (i, j) :: u.todo } else markArr c.cx c.s κ x y u
  | .lit (.slice none a b), .lit (.slice none a' b') => if Nat.beq a a' && Nat.beq b b' then u else addMk κ .wild u
  | .lit (.slice none _ _), .slice _ _ _ _ => markArr c.cx c.s κ x y u
  | .lit (.slice none _ _), .sl _ _ _ _ _ => markArr c.cx c.s κ x y u
  | .slice _ _ _ _, .sl _ _ _ _ _ => markArr c.cx c.s κ x y u
  | .sl (.own i) z o l _, .lit (.slice none 0 0) => (match c.hd.bl[i]? with
    | some (.arr _ _ q n) => c.uE κ .wild q (.c 0) (c.uE κ .wild n (.c 0) (c.uE κ .wild l (.c 0) { u with mp := (i, .nil) :: u.mp }))
    | _ => addMk κ .wild u)
  | .sl (.own i) z o l _, .slice j 0 m cp => (match c.hd.bl[i]?, c.s.bl[j]? with
    | some (.arr k _ q n), some (.cells L _ _) => (match chunkP c.cx k k.length m (L.take (m * k.length)) with
      | some es => c.uE κ .wild q (listE es) (c.uE κ .wild n (.c m) (c.uE κ .wild l (.c m) { u with mp := (i, .conc j (listE es) (.c m) cp) :: u.mp }))
      | none => addMk κ .wild u)
    | _, _ => addMk κ .wild u)
  | .sl (.own i) z o l q, .sl (.own j) z' o' l' q' =>
    if Nat.beq i j || Nat.ble c.n0 i then
      let u := c.uE (κ ++ [0]) (.num 0 1000000) o o' (c.uE (κ ++ [1]) (.num 0 1000000) l l' u)
      let u := if Nat.blt i c.n0 || hasT u.mp i then u else { u with mp := (i, .idx j) :: u.mp }
      { u with todo := (i, j) :: u.todo }
    else markArr c.cx c.s κ x y u
  | .sl (.inp i) z o l q, .sl (.inp j) z' o' l' q' => if Nat.beq i j then c.uE (κ ++ [0]) (.num 0 1000000) o o' (c.uE (κ ++ [1]) (.num 0 1000000) l l' u) else addMk κ .wild u
  | .func f a q, .func f' a' q' => if Fn.beq f f' && Nat.beq a.length a'.length && Nat.beq q.length q'.length then c.uL (κ ++ [1]) 0 q q' (c.uL (κ ++ [0]) 0 a a' u) else addMk κ .wild u
  | .iface t x, .iface t' y => if Nat.beq t t' then c.uSV (κ ++ [0]) x y u else addMk κ .wild u
  | .agg l, .agg m => if Nat.beq l.length m.length then c.uL κ 0 l m u else addMk κ .wild u
  | .tup l, .tup m => if Nat.beq l.length m.length then c.uL κ 0 l m u else addMk κ .wild u
  | x, y => if x.beq y then u else addMk κ .wild u
def UC.uL (c : UC) (κ : List Nat) (i : Nat) (x y : List SV) (u : US) : US :=
  match x, y with
  | x :: l, y :: m => c.uL κ (i + 1) l m (c.uSV (κ ++ [i]) x y u)
  | _, _ => u
end

/-- the entry's number of a head's block -/
def backMv : List (Nat × Nat) → Nat → Nat
  | [], j => j
  | (a, b) :: l, j => if Nat.beq b j then a else backMv l j

def UC.uBl (c : UC) (i j : Nat) (u : US) : US :=
  match c.hd.bl[i]?, c.s.bl[j]? with
  | some (.cells l _ _), some (.cells m _ _) => c.uL [1, backMv c.hd.mv i] 0 l m u
  | some (.arr _ _ q n), some (.arr _ _ q' n') => c.uE [1, backMv c.hd.mv i, 0] .code q q' (c.uE [1, backMv c.hd.mv i, 1] (.num 0 1000000) n n' u)
  | _, _ => u

def UC.uAll (c : UC) : Nat → List (Nat × Nat) → US → US
  | 0, _, u => u
  | f + 1, done, u => match u.todo with
    | [] => u
    | p :: l => if done.any (fun q => Nat.beq q.1 p.1 && Nat.beq q.2 p.2) then c.uAll f done { u with todo := l } else c.uAll f (p :: done) (c.uBl p.1 p.2 { u with todo := l })

def restB : Nat → List SBlk → List (Nat × Nat)
  | _, [] => []
  | i, .gone :: l => restB (i + 1) l
  | i, _ :: l => (i, i) :: restB (i + 1) l

def unify (cx : Cx) (base : Nat) (n0 : Nat) (hd : Hd) (tm : List SV) (s : St) : US :=
  let c : UC := ⟨cx, base, n0, hd, s⟩
  let u := c.uL [0] 0 hd.tm tm ⟨[], [], [], []⟩
  let u := c.uAll 200 [] u
  c.uAll 200 [] { u with todo := (restB 0 hd.bl).filter fun p => Nat.blt p.1 n0 }

def abOf (base : Nat) (hd : Hd) (u : US) : Ab :=
  ⟨base, hd.bds, (List.range hd.bds.length).map fun k => (lookN2 u.es k).getD (.c 0), u.mp⟩

/-! ### what must be told anew -/

def TT.nleaves : TT (Ex × List SV × St) → List (List SV × St)
  | .leaf (.normal, r) => [r]
  | .leaf _ => []
  | .br _ t f => t.nleaves ++ f.nleaves
  | .bad _ => []
  | .new _ _ t => t.nleaves
  | .loop _ _ r => r.nleaves

/-- a number that is counted up or down: bounds that it will not reach -/
def countMk (k : IntKind) (e0 : E) (i : Nat) (e : E) : Option Mk :=
  let big : Int := match k with
    | .i64 => 4611686018427387904
    | .u64 => 4611686018427387904
    | .i32 => 1073741824
    | .u32 => 1073741824
    | .i16 => 16384
    | .u16 => 16384
    | _ => 64
  let go (n : Int) : Mk := if 0 < n then .num (match e0 with | .c a => a | _ => (if k.signed then -big else 0)) big else .num (if k.signed then -big else 0) (match e0 with | .c a => a | _ => big)
  match e with
  | .w k' (.b .padd _ (.cl j _ _) (.c n)) => if k' = k && Nat.beq i j then some (go n) else none
  | .w k' (.b .psub _ (.cl j _ _) (.c n)) => if k' = k && Nat.beq i j then some (go (-n)) else none
  | _ => none

def refine1 (cx : Cx) (tm : List SV) (s : St) (hd : Hd) (base : Nat) (u : US) : Marks → Marks
  | [] => []
  | (κ, .num lo hi) :: l =>
    let r := refine1 cx tm s hd base u l
    match getK tm s κ with
    | some (.int k e0) => if lo == klo k && hi == khi k then
        -- the name that it has at the head
        (match (match κ with
          | 0 :: i :: κ' => getL hd.tm i κ'
          | 1 :: j :: i :: κ' => (match hd.bl[mvOf hd.mv j]? with
            | some (.cells L _ _) => getL L i κ'
            | _ => none)
          | _ => none) with
        | some (.int _ (.cl i _ _)) => (match lookN2 u.es (i - base) with
          | some e => (match countMk k e0 i e with
            | some m => (κ, m) :: r
            | none => r)
          | none => r)
        | _ => r) else r
    | _ => r
  | _ :: l => refine1 cx tm s hd base u l

def addAll : Marks → Marks → Marks
  | [], mk => mk
  | (κ, m) :: l, mk => addAll l (match findMk mk κ with
    | some _ => mk
    | none => (κ, m) :: mk)

def inferL (cx : Cx) (run : List SV → St → TT (Ex × List SV × St)) (base : Nat) (tm : List SV) (s : St) : Nat → Bool → Marks → Marks
  | 0, _, mk => mk
  | n + 1, done, mk =>
    let hd := mkHead mk base tm s
    let t := run hd.tm ⟨hd.bl, (.b .eq .i64 (.cl (base + hd.bds.length) 0 0) (.cl (base + hd.bds.length) 0 0), true) :: s.kn⟩
    let us := t.nleaves.map fun r => unify cx base s.bl.length hd r.1 r.2
    let news := (unify cx base s.bl.length hd tm s).mks ++ us.flatMap (·.mks)
    match news with
    | [] => if done then mk else
      let fine := us.flatMap fun u => refine1 cx tm s hd base u mk
      (match fine with
      | [] => mk
      | _ => inferL cx run base tm s n true (fine ++ mk))
    | _ => inferL cx run base tm s n done (addAll news mk)

end Go.Eng
