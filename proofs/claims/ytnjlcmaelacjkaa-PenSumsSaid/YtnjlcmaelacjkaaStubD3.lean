import Derived.Test.YtnjlcmaelacjkaaVMore
set_option linter.unusedVariables false
namespace Go.Proofs.Ytnjlcmaelacjkaa.PD3
open Go.RowKit Go.Proofs.YtnjlcmaelacjkaaW.PrintWords Go.Proofs.YtnjlcmaelacjkaaW.PrintLast Go.Proofs.YtnjlcmaelacjkaaW.PrintMore
def errW : Option Int → Value
  | none => .nilIface
  | some c => .iface 0 (.int .i64 c)
structure S33 where
  f0 : Int
  f1 : Int
def z33 : S33 := ⟨(0 : Int), (0 : Int)⟩
def k33 : Kd S33 := Kd.iso (Kd.pair (Kd.int .i64) (Kd.int .i64)) (fun x : S33 => (x.f0, x.f1))
def rd_T33 (xs : List S33) (i : Int) : S33 := xs.getD i.toNat z33
def rd_L2 (xs : List (List S33)) (i : Int) : (List S33) := xs.getD i.toNat ([] : List S33)
structure S57 where
  f0 : Int
  f1 : S33
def z57 : S57 := ⟨(0 : Int), z33⟩
def k57 : Kd S57 := Kd.iso (Kd.pair (Kd.int .i64) k33) (fun x : S57 => (x.f0, x.f1))
def rd_T57 (xs : List S57) (i : Int) : S57 := xs.getD i.toNat z57
def flat_IsCoord.f (a0 : Int) : Option (Bool) := if a0 ≥ (-268435455) then (some (decide (a0 ≤ 268435455))) else (some false)
def flat_IsPoint.f (a0_0 : Int) (a0_1 : Int) : Option (Bool) := (flat_IsCoord.f a0_0).bind fun t102 => (if t102 = true then ((flat_IsCoord.f a0_1).bind fun t103 => (some t103)) else (some false))
def idxFrom (p : S33 → Bool) : List S33 → Int → Int
  | [], _ => -1
  | x :: xs, i => if p x then i else idxFrom p xs (i + 1)
theorem rd_drop (xs : List S33) (i : Nat) (h : i < xs.length) : xs.drop i = rd_T33 xs (i : Int) :: xs.drop (i + 1) := by
  rw [List.drop_eq_getElem_cons h]
  congr 1
  simp [rd_T33, List.getD_eq_getElem?_getD, List.getElem?_eq_getElem h]
def ptv (x : S33) : Value := .agg #[.int .i64 x.f0, .int .i64 x.f1]
instance instPt : Inhabited S33 := ⟨z33⟩
def encP (x : S33) : List Value := [.int .i64 x.f0, .int .i64 x.f1]
def api_Point_76.f (l0 : List S33) : Option (List S33) := if l0.length ≤ 9223372036854775807 then some l0.reverse else none
def cmp_isNaN_int.f (a0 : Int) : Option (Bool) := some (a0 != a0)
def cmp_Compare_int.f (a0 : Int) (a1 : Int) : Option (Int) := (cmp_isNaN_int.f a0).bind fun t104 => ((cmp_isNaN_int.f a1).bind fun t105 => (if t104 = true then (if t105 = true then (some 0) else (some (-1))) else (if t105 = true then (some 1) else (if a0 < a1 then (some (-1)) else (if a0 > a1 then (some 1) else (some 0))))))
def cmp_Or_int.l0 : Nat → Int → List Int → Int → Int → Option (Int)
  | 0, _, _, _, _ => none
  | k + 1, x3, x6, x7, x8 => if x8 < x7 then (if 0 ≤ x8 then (if x8 < (x6.length : Int) then (if (rd x6 x8) = x3 then (cmp_Or_int.l0 k x3 x6 x7 (wrap64 (x8 + 1))) else (some (rd x6 x8))) else (none)) else (none)) else (some x3)
def cmp_Or_int.f (k : Nat) (l0 : List Int) : Option (Int) := cmp_Or_int.l0 k 0 l0 (l0.length : Int) 0
def cmpB (x y : S33) : Int := if x.f0 < y.f0 then -1 else if y.f0 < x.f0 then 1 else if x.f1 < y.f1 then -1 else if y.f1 < x.f1 then 1 else 0
theorem compare_int (a b : Int) : cmp_Compare_int.f a b = some (if a < b then -1 else if b < a then 1 else 0) := by
  unfold cmp_Compare_int.f cmp_isNaN_int.f
  simp
  (repeat' split) <;> first | rfl | omega
theorem cmpB_lt (x y : S33) : cmpB x y < 0 ↔ x.f0 < y.f0 ∨ x.f0 = y.f0 ∧ x.f1 < y.f1 := by
  unfold cmpB
  (repeat' split) <;> omega
theorem pt_ext {x y : S33} (h0 : x.f0 = y.f0) (h1 : x.f1 = y.f1) : x = y := by
  cases x; cases y; simp only at h0 h1; subst h0; subst h1; rfl
def insB (x : S33) : List S33 → List S33
  | [] => [x]
  | y :: l => if cmpB y x < 0 then y :: insB x l else x :: y :: l
def isort (l : List S33) : List S33 := l.foldr insB []
theorem insB_perm (x : S33) : ∀ l, (insB x l).Perm (x :: l)
  | [] => List.Perm.refl _
  | y :: l => by
    unfold insB
    split
    · exact ((insB_perm x l).cons y).trans (List.Perm.swap x y l)
    · exact List.Perm.refl _
theorem isort_perm : ∀ l, (isort l).Perm l
  | [] => List.Perm.refl _
  | x :: l => (insB_perm x _).trans ((isort_perm l).cons x)
def LeP (x y : S33) : Prop := ¬ cmpB y x < 0
theorem insB_sorted (x : S33) : ∀ l, l.Pairwise LeP → (insB x l).Pairwise LeP
  | [], _ => List.pairwise_singleton _ _
  | y :: l, h => by
    obtain ⟨h1, h2⟩ := List.pairwise_cons.mp h
    unfold insB
    split
    · rename_i hc
      refine List.pairwise_cons.mpr ⟨fun z hz => ?_, insB_sorted x l h2⟩
      rcases List.mem_cons.mp ((insB_perm x l).mem_iff.mp hz) with rfl | hz
      · unfold LeP; rw [cmpB_lt] at hc ⊢; omega
      · exact h1 z hz
    · rename_i hc
      refine List.pairwise_cons.mpr ⟨fun z hz => ?_, h⟩
      rcases List.mem_cons.mp hz with rfl | hz
      · exact hc
      · have := h1 z hz
        unfold LeP at this ⊢; rw [cmpB_lt] at this hc ⊢; omega
theorem isort_sorted : ∀ l, (isort l).Pairwise LeP
  | [] => List.Pairwise.nil
  | x :: l => insB_sorted x _ (isort_sorted l)
def api_Point_73.f (l0 : List S33) : Option (List S33) := if l0.length < 4611686018427387904 then some (isort l0) else none
theorem wrap64_id {n : Int} (h0 : -9223372036854775808 ≤ n) (h1 : n ≤ 9223372036854775807) : wrap64 n = n := by unfold wrap64; omega
def eqP (x y : S33) : Bool := x.f0 == y.f0 && (x.f1 == y.f1)
def compGo (p : S33) : List S33 → List S33
  | [] => []
  | y :: l => if eqP y p then compGo p l else y :: compGo y l
def compB : List S33 → List S33
  | [] => []
  | x :: l => x :: compGo x l
theorem eqP_iff {x y : S33} : eqP x y = true ↔ x = y := by
  unfold eqP
  simp only [Bool.and_eq_true, beq_iff_eq]
  exact ⟨fun h => pt_ext h.1 h.2, fun h => by subst h; exact ⟨rfl, rfl⟩⟩
def PtsAt (cur : Array Value) (d : List S33) : Prop := ∀ j x, d[j]? = some x → cur[j * 2]? = some (.int .i64 x.f0) ∧ cur[j * 2 + 1]? = some (.int .i64 x.f1)
def api_Point_74.f (l0 : List S33) : Option (List S33) := if l0.length ≤ 1000000000 then some (compB l0) else none
def bndAt (l : List S33) : Nat → Int × Int × Int × Int
  | 0 => ((rd_T33 l 0).f0, (rd_T33 l 0).f1, (rd_T33 l 0).f0, (rd_T33 l 0).f1)
  | i + 1 => (mn (bndAt l i).1 (rd_T33 l (i : Int)).f0, mn (bndAt l i).2.1 (rd_T33 l (i : Int)).f1, mx (bndAt l i).2.2.1 (rd_T33 l (i : Int)).f0, mx (bndAt l i).2.2.2 (rd_T33 l (i : Int)).f1)
def flat_Bounds.f (l0 : List S33) : Option (Int × Int × Int × Int) := if 1 ≤ l0.length ∧ l0.length ≤ 1000000000 then some (bndAt l0 l0.length) else none
def wind_Sign.f (a0_0 : Int) (a0_1 : Int) (a1_0 : Int) (a1_1 : Int) (a2_0 : Int) (a2_1 : Int) : Option (Int) := (cmp_Compare_int.f (wrap64 ((wrap64 (a1_0 - a0_0)) * (wrap64 (a2_1 - a0_1)))) (wrap64 ((wrap64 (a1_1 - a0_1)) * (wrap64 (a2_0 - a0_0))))).bind fun t118 => (some t118)
def signV (a b p : S33) : Int := (wind_Sign.f a.f0 a.f1 b.f0 b.f1 p.f0 p.f1).getD 0
theorem sign_some (a b p : S33) : wind_Sign.f a.f0 a.f1 b.f0 b.f1 p.f0 p.f1 = some (signV a b p) := by
  unfold signV wind_Sign.f
  rw [compare_int]
  rfl
def nxt (l : List S33) (i : Nat) : S33 := rd_T33 l (((i + 1) % l.length : Nat) : Int)
def edgeV (a b : S33) : Value := .agg #[.int .i64 a.f0, .int .i64 a.f1, .int .i64 b.f0, .int .i64 b.f1]
def pickAt (t : S33 → S33 → Bool) (l : List S33) : Nat → S33
  | 0 => rd_T33 l 0
  | i + 1 => if t (rd_T33 l ((i + 1 : Nat) : Int)) (pickAt t l i) then rd_T33 l ((i + 1 : Nat) : Int) else pickAt t l i
def fleuronlaw18_few.l0 : Nat → Int → Int → List (List (S33)) → Int → Int → Option (Bool)
  | 0, _, _, _, _, _ => none
  | k + 1, x0, x5, x8, x9, x10 => if x10 < x9 then (if 0 ≤ x10 then (if x10 < (x8.length : Int) then (if (wrap64 (x5 + ((rd_L2 x8 x10).length : Int))) > x0 then (some false) else (fleuronlaw18_few.l0 k x0 (wrap64 (x5 + ((rd_L2 x8 x10).length : Int))) x8 x9 (wrap64 (x10 + 1)))) else (none)) else (none)) else (some true)
def fleuronlaw18_few.f (k : Nat) (a0 : Int) (l1 : List (List (S33))) : Option (Bool) := fleuronlaw18_few.l0 k a0 0 l1 (l1.length : Int) 0
def isPt (x : S33) : Bool := decide (-268435455 ≤ x.f0) && decide (x.f0 ≤ 268435455) && (decide (-268435455 ≤ x.f1) && decide (x.f1 ≤ 268435455))
def flat_ArePoints.f (l0 : List S33) : Option Bool := if l0.length ≤ 9223372036854775807 then some (l0.all isPt) else none
theorem isPoint_is (x : S33) : flat_IsPoint.f x.f0 x.f1 = some (isPt x) := by
  unfold flat_IsPoint.f flat_IsCoord.f isPt
  by_cases h1 : x.f0 ≥ -268435455
  · rw [if_pos h1]
    by_cases h2 : x.f0 ≤ 268435455
    · rw [show decide (x.f0 ≤ 268435455) = true from decide_eq_true h2, show decide (-268435455 ≤ x.f0) = true from decide_eq_true h1]
      simp only [Option.bind_some, if_true]
      by_cases h3 : x.f1 ≥ -268435455
      · rw [if_pos h3, show decide (-268435455 ≤ x.f1) = true from decide_eq_true h3]; simp
      · rw [if_neg h3, show decide (-268435455 ≤ x.f1) = false from decide_eq_false h3]; simp
    · rw [show decide (x.f0 ≤ 268435455) = false from decide_eq_false h2]; simp
  · rw [if_neg h1, show decide (-268435455 ≤ x.f0) = false from decide_eq_false h1]; simp
def pen_fits.f (l0 : List (S33)) : Option ((List (S33)) × Int) := (flat_ArePoints.f l0).bind fun t120 => (if t120 = true then (if (l0.length : Int) > 64 then (some (([] : List (S33)), 3)) else (some (l0, 0))) else (some (([] : List (S33)), 17)))
def api_Point_72.f (l0 : List S33) : Option (List S33) := if l0.length < 8796093022208 then some l0 else none
def popV (p : S33) : List S33 → List S33
  | b :: a :: r => if signV a b p ≤ 0 then popV p (a :: r) else b :: a :: r
  | st => st
def pushV (st : List S33) (p : S33) : List S33 := p :: popV p st
def pen_chain.f (l0 : List S33) : Option (List S33) := if l0.length ≤ 1000000 then some (l0.foldl pushV []).reverse else none
def pen_hull.f (l0 : List S33) : Option (List S33) := (api_Point_72.f l0).bind fun a => (api_Point_73.f a).bind fun b => (api_Point_74.f b).bind fun c =>
  if (c.length : Int) < 3 then some c else (pen_chain.f c).bind fun low => (api_Point_76.f c).bind fun d => (pen_chain.f d).bind fun high =>
  if 1 ≤ low.length ∧ 1 ≤ high.length ∧ low.length + high.length ≤ 1000000 then some (low.take (low.length - 1) ++ high.take (high.length - 1)) else none
def pen_Hull.j0 : Nat → List (S33) → Bool → Option ((List (S33)) × Int)
  | 0, _, _ => none
  | k + 1, x0, x16 => if x16 = true then (some (([] : List (S33)), 2)) else ((pen_hull.f x0).bind fun t122 => ((pen_fits.f t122).bind fun bt125 => (some (bt125.1, bt125.2))))
def pen_Hull.f (k : Nat) (l0 : List (S33)) : Option ((List (S33)) × Int) := if (l0.length : Int) < 1 then (pen_Hull.j0 k l0 true) else (if (l0.length : Int) > 2000 then (pen_Hull.j0 k l0 true) else ((flat_ArePoints.f l0).bind fun t121 => (pen_Hull.j0 k l0 (!t121))))
def wind_valid.f (l0 : List (S33)) : Option (Bool) := if (l0.length : Int) ≥ 1 then (if (l0.length : Int) ≤ 60000 then ((flat_ArePoints.f l0).bind fun t129 => (some t129)) else (some false)) else (some false)
def wind_half.f (a0_0 : Int) (a0_1 : Int) (a1_0 : Int) (a1_1 : Int) : Option (Int) := if a1_1 > a0_1 then (some 0) else (if a1_1 = a0_1 then (if a1_0 > a0_0 then (some 0) else (some 1)) else (some 1))
def halfV (a b : S33) : Int := (wind_half.f a.f0 a.f1 b.f0 b.f1).getD 0
def nxt2 (l : List S33) (i : Nat) : S33 := rd_T33 l (((i + 2) % l.length : Nat) : Int)
def convGo (l : List S33) : Nat → Option Int
  | 0 => some 0
  | i + 1 => (convGo l i).bind fun n => if signV (rd_T33 l (i : Int)) (nxt l i) (nxt2 l i) ≤ 0 then none else some (if halfV (rd_T33 l (i : Int)) (nxt l i) > halfV (nxt l i) (nxt2 l i) then n + 1 else n)
def convB (l : List S33) : Bool := match convGo l l.length with | some n => n == 1 | none => false
def wind_convex.f (l0 : List S33) : Option Bool := if 1 ≤ l0.length ∧ l0.length ≤ 1000000 then some (convB l0) else none
def wind_Convex.f (l0 : List (S33)) : Option (Bool × Int) := (wind_valid.f l0).bind fun t132 => (if t132 = true then (if (l0.length : Int) < 3 then (if (l0.length : Int) = 1 then (some (true, 0)) else (if 0 < (l0.length : Int) then (if 1 < (l0.length : Int) then (some ((!(((rd_T33 l0 0).f0) == ((rd_T33 l0 1).f0)) || (!(((rd_T33 l0 0).f1) == ((rd_T33 l0 1).f1)))), 0)) else (none)) else (none))) else ((wind_convex.f l0).bind fun t135 => (some (t135, 0)))) else (some (false, 2)))
def minP (l : List S33) : S33 := pickAt (fun x m => decide (cmpB x m < 0)) l (l.length - 1)
def pen_Valid.f (l0 : List S33) : Option Bool := if l0.length < 1 then some false else if 64 < l0.length then some false else (flat_ArePoints.f l0).bind fun b => if b = true then (wind_Convex.f l0).bind fun c => some (c.1 && eqP (minP l0) (rd_T33 l0 0)) else some false
def fleuronref16_Same.l0 : Nat → List (S33) → List (S33) → Int → Int → Option (Bool)
  | 0, _, _, _, _ => none
  | k + 1, x0, x1, x12, x13 => if x13 < x12 then (if 0 ≤ x13 then (if x13 < (x0.length : Int) then (if x13 < (x1.length : Int) then (if (!(((rd_T33 x0 x13).f0) == ((rd_T33 x1 x13).f0)) || (!(((rd_T33 x0 x13).f1) == ((rd_T33 x1 x13).f1)))) = true then (some false) else (fleuronref16_Same.l0 k x0 x1 x12 (wrap64 (x13 + 1)))) else (none)) else (none)) else (none)) else (some true)
def fleuronref16_Same.f (k : Nat) (l0 : List (S33)) (l1 : List (S33)) : Option (Bool) := if (l0.length : Int) = (l1.length : Int) then (fleuronref16_Same.l0 k l0 l1 (l0.length : Int) 0) else (some false)
def pen_plus.f (a0_0 : Int) (a0_1 : Int) (a1_0 : Int) (a1_1 : Int) : Option (Int × Int) := some (wrap64 (a0_0 + a1_0), wrap64 (a0_1 + a1_1))
def pen_at.l0 : Nat → List (S33) → List (S33) → Int → Int → Int → Int → Option ((List (S33)))
  | 0, _, _, _, _, _, _ => none
  | k + 1, x5, x11, x12, x13, x142000, x142001 => if x13 < x12 then (if 0 ≤ x13 then (if x13 < (x11.length : Int) then ((pen_plus.f x142000 x142001 ((rd_T33 x11 x13).f0) ((rd_T33 x11 x13).f1)).bind fun bt147 => (if x13 < (x5.length : Int) then (pen_at.l0 k (x5.set (x13 : Int).toNat (⟨bt147.1, bt147.2⟩ : S33)) x11 x12 (wrap64 (x13 + 1)) x142000 x142001) else (none))) else (none)) else (none)) else (some x5)
def pen_at.f (k : Nat) (l0 : List (S33)) (a1_0 : Int) (a1_1 : Int) : Option ((List (S33))) := if 0 ≤ (l0.length : Int) then (if ((l0.length : Int) : Int).toNat ≤ 17592186044416 then (pen_at.l0 k (List.replicate ((l0.length : Int) : Int).toNat z33) l0 (l0.length : Int) 0 a1_0 a1_1) else (none)) else (none)
def pen_Swept.f (k : Nat) (l0 : List (S33)) (a1_0 : Int) (a1_1 : Int) (a2_0 : Int) (a2_1 : Int) : Option ((List (S33))) := (pen_at.f k l0 a1_0 a1_1).bind fun t152 => ((pen_at.f k l0 a2_0 a2_1).bind fun t155 => (if t152.length + t155.length < 8796093022208 then ((pen_hull.f (t152 ++ t155)).bind fun t161 => (some t161)) else (none)))
def pen_Swept.T1 : Bool × List (List Nat × List Nat) := (true, [([], []), ([], []), ([0, 1], [0, 1]), ([], []), ([], []), ([3, 4, 2], [3, 4]), ([2, 5, 5], [2, 5]), ([6, 6], [6]), ([7, 7, 0, 1, 2, 3, 4, 5, 6, 7], [7])])
def pen_Swept.B1 : List Nat := [0, 0, 3, 0, 0, 31, 63, 127, 255]
def pen_Sweep.f (l0 : List S33) (a1_0 a1_1 a2_0 a2_1 : Int) : Option (List S33 × Int) := (pen_Valid.f l0).bind fun v => if v = true then (flat_ArePoints.f [⟨a1_0, a1_1⟩, ⟨a2_0, a2_1⟩]).bind fun b => if b = true then (pen_Swept.f (l0.length + 5) l0 a1_0 a1_1 a2_0 a2_1).bind fun h => (flat_ArePoints.f h).bind fun b1 => if b1 = true then
  (pen_at.f (l0.length + 5) l0 a1_0 a1_1).bind fun x => (flat_ArePoints.f x).bind fun b2 => if b2 = true then (pen_at.f (l0.length + 5) l0 a2_0 a2_1).bind fun y => (flat_ArePoints.f y).bind fun b3 => if b3 = true then some (h, 0) else some ([], 17) else some ([], 17) else some ([], 17) else some ([], 2) else some ([], 2)
def hasAt (l : List S33) (s : S33) : Nat → Bool
  | 0 => true
  | i + 1 => hasAt l s i && decide (0 ≤ signV (rd_T33 l (i : Int)) (nxt l i) s)
def HasI (w : World) (l0 : List S33) (s : S33) (bk bs : Nat) (i : Nat) (W : World) : Prop :=
  Below w.heap.size w W ∧ W.heap[bs]? = some (.cells #[.int .i64 s.f0, .int .i64 s.f1] 33 (0, 0)) ∧ W.heap[bk]? = some (.cells #[.bool (hasAt l0 s i)] 4 (0, 0)) ∧ w.heap.size ≤ bk ∧ bs ≠ bk
def outB (b : Int × Int × Int × Int) (s0 s1 : Int) : Bool := decide (s0 < b.1) || (decide (b.2.2.1 < s0) || (decide (s1 < b.2.1) || decide (b.2.2.2 < s1)))
def pen_Has.f (l0 : List S33) (a1_0 a1_1 : Int) : Option Bool := if 1 ≤ l0.length ∧ l0.length ≤ 1000000000 then some (!outB (bndAt l0 l0.length) a1_0 a1_1 && hasAt l0 ⟨a1_0, a1_1⟩ l0.length) else none
def pen_Covers.f (l0 : List S33) (a1_0 a1_1 a2_0 a2_1 a3_0 a3_1 : Int) : Option (Bool × Int) := (pen_Valid.f l0).bind fun v => if v = true then (flat_ArePoints.f [⟨a1_0, a1_1⟩, ⟨a2_0, a2_1⟩, ⟨a3_0, a3_1⟩]).bind fun b => if b = true then (pen_Swept.f (l0.length + 5) l0 a1_0 a1_1 a2_0 a2_1).bind fun h => (pen_Has.f h a3_0 a3_1).bind fun q => some (q, 0) else some (false, 2) else some (false, 2)
def pen_ValidLine.f (l0 : List (S33)) : Option (Bool) := if (l0.length : Int) ≥ 1 then (if (l0.length : Int) ≤ 60000 then ((flat_ArePoints.f l0).bind fun t164 => (some t164)) else (some false)) else (some false)
def pieces (l : List S33) : Nat := if l.length = 1 then 1 else l.length - 1
def pieceB (l : List S33) (i : Nat) : S33 := if l.length = 1 then rd_T33 l 0 else rd_T33 l ((i + 1 : Nat) : Int)
theorem any_hit {f : Nat → Bool} {n i : Nat} (h : i < n) (hf : f i = true) : (List.range n).any f = true := List.any_eq_true.mpr ⟨i, List.mem_range.mpr h, hf⟩
theorem any_none {f : Nat → Bool} {n : Nat} (h : ∀ i, i < n → f i = false) : (List.range n).any f = false := by
  rw [List.any_eq_false]
  intro x hx
  rw [h x (List.mem_range.mp hx)]; simp
def pen_Strokes.f (l0 : List S33) : Option Bool := none
def huA (l0 l1 : List S33) (i : Nat) : List S33 := (pen_Swept.f (l0.length + 5) l0 (rd_T33 l1 (i : Int)).f0 (rd_T33 l1 (i : Int)).f1 (pieceB l1 i).f0 (pieceB l1 i).f1).getD []
def hsA (l0 l1 : List S33) (s0 s1 : Int) (i : Nat) : Bool := (pen_Has.f (huA l0 l1 i) s0 s1).getD false
def okA (l0 l1 : List S33) (s0 s1 : Int) : Bool := (List.range (pieces l1)).all fun i => (pen_Swept.f (l0.length + 5) l0 (rd_T33 l1 (i : Int)).f0 (rd_T33 l1 (i : Int)).f1 (pieceB l1 i).f0 (pieceB l1 i).f1).isSome && (pen_Has.f (huA l0 l1 i) s0 s1).isSome
theorem some_getD {α : Type} {o : Option α} {d : α} (h : o.isSome = true) : o = some (o.getD d) := by cases o with | none => cases h | some x => rfl
def pen_Along.f (l0 l1 : List S33) (a2_0 a2_1 : Int) : Option (Bool × Int) := (pen_Valid.f l0).bind fun v => if v = true then (pen_ValidLine.f l1).bind fun b => if b = true then (flat_IsPoint.f a2_0 a2_1).bind fun q => if q = true then if (1 ≤ l1.length ∧ l1.length ≤ 1000000000) ∧ okA l0 l1 a2_0 a2_1 = true then some ((List.range (pieces l1)).any (hsA l0 l1 a2_0 a2_1), 0) else none else some (false, 2) else some (false, 2) else some (false, 2)
def pen_each.f (l0 : List S33) : Option (List S33) := none
def negP (x : S33) : S33 := ⟨wrap64 (-x.f0), wrap64 (-x.f1)⟩
def pen_Turn.f (l0 : List S33) : Option (List S33 × Int) := (pen_Valid.f l0).bind fun v => if v = true then if 1 ≤ l0.length ∧ l0.length ≤ 1000000 then (pen_hull.f (l0.map negP)).bind fun h => some (h, 0) else none else some ([], 2)
mutual
def pen_Sum.j0 : Nat → List (S33) → List (S33) → Bool → Option ((List (S33)) × Int)
  | 0, _, _, _ => none
  | k + 1, x0, x1, x18 => if x18 = true then (some (([] : List (S33)), 2)) else (pen_Sum.l0 k x1 ([] : List (S33)) x0 (x0.length : Int) 0)
def pen_Sum.l0 : Nat → List (S33) → List (S33) → List (S33) → Int → Int → Option ((List (S33)) × Int)
  | 0, _, _, _, _, _ => none
  | k + 1, x1, x6, x19, x20, x21 => if x21 < x20 then (if 0 ≤ x21 then (if x21 < (x19.length : Int) then (pen_Sum.l1 k x1 x6 x19 x20 x21 x1 (x1.length : Int) 0 ((rd_T33 x19 x21).f0) ((rd_T33 x19 x21).f1)) else (none)) else (none)) else ((pen_hull.f x6).bind fun t167 => ((pen_fits.f t167).bind fun bt170 => (some (bt170.1, bt170.2))))
def pen_Sum.l1 : Nat → List (S33) → List (S33) → List (S33) → Int → Int → List (S33) → Int → Int → Int → Int → Option ((List (S33)) × Int)
  | 0, _, _, _, _, _, _, _, _, _, _ => none
  | k + 1, x1, x6, x19, x20, x21, x25, x26, x27, x176000, x176001 => if x27 < x26 then (if 0 ≤ x27 then (if x27 < (x25.length : Int) then ((pen_plus.f x176000 x176001 ((rd_T33 x25 x27).f0) ((rd_T33 x25 x27).f1)).bind fun bt178 => (if x6.length < 8796093022208 then (pen_Sum.l1 k x1 (x6 ++ [(⟨bt178.1, bt178.2⟩ : S33)]) x19 x20 x21 x25 x26 (wrap64 (x27 + 1)) x176000 x176001) else (none))) else (none)) else (none)) else (pen_Sum.l0 k x1 x6 x19 x20 (wrap64 (x21 + 1)))
end
def pen_Sum.f (k : Nat) (l0 : List (S33)) (l1 : List (S33)) : Option ((List (S33)) × Int) := (pen_Valid.f l0).bind fun t165 => (if t165 = true then ((pen_Valid.f l1).bind fun t166 => (pen_Sum.j0 k l0 l1 (!t166))) else (pen_Sum.j0 k l0 l1 true))
def farV (d p : S33) : Int := wrap64 (wrap64 (d.f0 * p.f0) + wrap64 (d.f1 * p.f1))
def cmpI (a b : Int) : Int := if a < b then -1 else if b < a then 1 else 0
def touchP (l : List S33) (d : S33) : S33 := pickAt (fun x m => decide (0 < cmpI (farV d x) (farV d m))) l (l.length - 1)
def pen_Touch.f (l0 : List S33) (a1_0 a1_1 : Int) : Option (Int × Int × Int) := (pen_Valid.f l0).bind fun v => if v = true then (flat_IsPoint.f a1_0 a1_1).bind fun q => if q = true then if 1 ≤ l0.length ∧ l0.length ≤ 1000000 then some ((touchP l0 ⟨a1_0, a1_1⟩).f0, (touchP l0 ⟨a1_0, a1_1⟩).f1, 0) else none else some (0, 0, 2) else some (0, 0, 2)
def fleuronlaw18_awake.f : Option Bool := some true
def fleuronref16_In.f (a0_0 : Int) (a0_1 : Int) : Option (Bool) := if a0_0 ≥ (-268435455) then (if a0_0 ≤ 268435455 then (if a0_1 ≥ (-268435455) then (some (decide (a0_1 ≤ 268435455))) else (some false)) else (some false)) else (some false)
def fleuronref16_All.l0 : Nat → List (S33) → Int → Int → Option (Bool)
  | 0, _, _, _ => none
  | k + 1, x5, x6, x7 => if x7 < x6 then (if 0 ≤ x7 then (if x7 < (x5.length : Int) then ((fleuronref16_In.f ((rd_T33 x5 x7).f0) ((rd_T33 x5 x7).f1)).bind fun t186 => (if t186 = true then (fleuronref16_All.l0 k x5 x6 (wrap64 (x7 + 1))) else (some false))) else (none)) else (none)) else (some true)
def fleuronref16_All.f (k : Nat) (l0 : List (S33)) : Option (Bool) := fleuronref16_All.l0 k l0 (l0.length : Int) 0
def fleuronref17_sign.f (a0 : Int) : Option (Int) := if a0 > 0 then (some 1) else (if a0 < 0 then (some (-1)) else (some 0))
def fleuronref17_Turn.f (a0_0 : Int) (a0_1 : Int) (a1_0 : Int) (a1_1 : Int) (a2_0 : Int) (a2_1 : Int) : Option (Int) := (fleuronref17_sign.f (wrap64 ((wrap64 ((wrap64 (a1_0 - a0_0)) * (wrap64 (a2_1 - a0_1)))) - (wrap64 ((wrap64 (a1_1 - a0_1)) * (wrap64 (a2_0 - a0_0))))))).bind fun t190 => (some t190)
def fleuronref18_before.f (a0_0 : Int) (a0_1 : Int) (a1_0 : Int) (a1_1 : Int) : Option (Bool) := if a0_0 < a1_0 then (some true) else (if a0_0 = a1_0 then (some (decide (a0_1 < a1_1))) else (some false))
def fleuronref18_far.f (a0_0 : Int) (a0_1 : Int) (a1_0 : Int) (a1_1 : Int) : Option (Int) := some (wrap64 ((wrap64 ((wrap64 (a0_0 - a1_0)) * (wrap64 (a0_0 - a1_0)))) + (wrap64 ((wrap64 (a0_1 - a1_1)) * (wrap64 (a0_1 - a1_1))))))
def turnV (a b p : S33) : Int := (fleuronref17_Turn.f a.f0 a.f1 b.f0 b.f1 p.f0 p.f1).getD 0
theorem turn_some (a b p : S33) : fleuronref17_Turn.f a.f0 a.f1 b.f0 b.f1 p.f0 p.f1 = some (turnV a b p) := by
  unfold turnV fleuronref17_Turn.f fleuronref17_sign.f
  (repeat' split) <;> rfl
def beforeB (a b : S33) : Bool := decide (a.f0 < b.f0) || (a.f0 == b.f0 && decide (a.f1 < b.f1))
theorem before_is (a b : S33) : fleuronref18_before.f a.f0 a.f1 b.f0 b.f1 = some (beforeB a b) := by
  unfold fleuronref18_before.f beforeB
  by_cases h : a.f0 < b.f0
  · rw [if_pos h, decide_eq_true h]; rfl
  · rw [if_neg h, decide_eq_false h]
    by_cases h2 : a.f0 = b.f0
    · rw [if_pos h2, beq_iff_eq.mpr h2]; rfl
    · rw [if_neg h2, beq_eq_false_iff_ne.mpr h2]; rfl
def farD (a b : S33) : Int := wrap64 (wrap64 (wrap64 (a.f0 - b.f0) * wrap64 (a.f0 - b.f0)) + wrap64 (wrap64 (a.f1 - b.f1) * wrap64 (a.f1 - b.f1)))
theorem far_is (a b : S33) : fleuronref18_far.f a.f0 a.f1 b.f0 b.f1 = some (farD a b) := rfl
def firstAt (l : List S33) : Nat → S33
  | 0 => rd_T33 l 0
  | i + 1 => if beforeB (rd_T33 l (i : Int)) (firstAt l i) then rd_T33 l (i : Int) else firstAt l i
def stepB (a t p : S33) : S33 := if eqP p a then t else if eqP t a || (decide (turnV a t p < 0) || (turnV a t p == 0 && decide (farD a t < farD a p))) then p else t
def toAt (l : List S33) (a : S33) : Nat → S33
  | 0 => a
  | i + 1 => stepB a (toAt l a i) (rd_T33 l (i : Int))
def roundGo (l : List S33) (f : S33) : Nat → S33 → List S33 → Option (List S33)
  | 0, _, _ => none
  | k + 1, a, out => if eqP (toAt l a l.length) f || eqP (toAt l a l.length) a then some out else roundGo l f k (toAt l a l.length) (out ++ [toAt l a l.length])
def fleuronref18_Round.f (l0 : List S33) : Option (List S33) := if 1 ≤ l0.length ∧ l0.length ≤ 1000000 then roundGo l0 (firstAt l0 l0.length) (l0.length + 5) (firstAt l0 l0.length) [firstAt l0 l0.length] else none
def fleuronref18_Valid.f (k : Nat) (l0 : List (S33)) : Option (Bool) := if (l0.length : Int) ≥ 1 then (if (l0.length : Int) ≤ 64 then ((fleuronref16_All.f k l0).bind fun t195 => (if t195 = true then ((fleuronref18_Round.f l0).bind fun t196 => ((fleuronref16_Same.f k l0 t196).bind fun t199 => (some t199))) else (some false))) else (some false)) else (some false)
def fleuronref16_Bounds.f (l0 : List S33) : Option (Int × Int × Int × Int) := if 1 ≤ l0.length ∧ l0.length ≤ 1000000000 then some (bndAt l0 l0.length) else none
def fleuronref18_plus.l0 : Nat → List (S33) → List (S33) → Int → Int → Int → Int → Option ((List (S33)))
  | 0, _, _, _, _, _, _ => none
  | k + 1, x5, x8, x9, x10, x201000, x201001 => if x10 < x9 then (if 0 ≤ x10 then (if x10 < (x8.length : Int) then (if x5.length < 8796093022208 then (fleuronref18_plus.l0 k (x5 ++ [(⟨wrap64 (((rd_T33 x8 x10).f0) + x201000), wrap64 (((rd_T33 x8 x10).f1) + x201001)⟩ : S33)]) x8 x9 (wrap64 (x10 + 1)) x201000 x201001) else (none)) else (none)) else (none)) else (some x5)
def fleuronref18_plus.f (k : Nat) (l0 : List (S33)) (a1_0 : Int) (a1_1 : Int) : Option ((List (S33))) := fleuronref18_plus.l0 k ([] : List (S33)) l0 (l0.length : Int) 0 a1_0 a1_1
def leftAt (l : List S33) (s : S33) (i : Nat) : Bool := decide (0 ≤ turnV (rd_T33 l (i : Int)) (nxt l i) s)
def inB (b : Int × Int × Int × Int) (s0 s1 : Int) : Bool := decide (b.1 ≤ s0) && (decide (s0 ≤ b.2.2.1) && (decide (b.2.1 ≤ s1) && decide (s1 ≤ b.2.2.2)))
theorem all_hit {f : Nat → Bool} {n i : Nat} (h : i < n) (hf : f i = false) : (List.range n).all f = false := List.all_eq_false.mpr ⟨i, List.mem_range.mpr h, by rw [hf]; simp⟩
theorem all_none {f : Nat → Bool} {n : Nat} (h : ∀ i, i < n → f i = true) : (List.range n).all f = true := List.all_eq_true.mpr (fun x hx => h x (List.mem_range.mp hx))
def fleuronref18_Has.f (l0 : List S33) (a1_0 a1_1 : Int) : Option Bool := if l0.length = 1 then some (eqP (rd_T33 l0 0) ⟨a1_0, a1_1⟩) else if 1 ≤ l0.length ∧ l0.length ≤ 1000000000 then some ((List.range l0.length).all (leftAt l0 ⟨a1_0, a1_1⟩) && inB (bndAt l0 l0.length) a1_0 a1_1) else none
def fleuronref18_Swept.f (k : Nat) (l0 : List (S33)) (a1_0 : Int) (a1_1 : Int) (a2_0 : Int) (a2_1 : Int) : Option ((List (S33))) := (fleuronref18_plus.f k l0 a1_0 a1_1).bind fun t208 => ((fleuronref18_plus.f k l0 a2_0 a2_1).bind fun t211 => (if t208.length + t211.length < 8796093022208 then ((fleuronref18_Round.f (t208 ++ t211)).bind fun t217 => (some t217)) else (none)))
def fleuronref18_Swept.T1 : Bool × List (List Nat × List Nat) := (true, [([], []), ([], []), ([0, 1], [0, 1]), ([], []), ([], []), ([3, 4, 2], [3, 4]), ([2, 5, 5], [2, 5]), ([6, 6], [6]), ([7, 7, 0, 1, 2, 3, 4, 5, 6, 7], [7])])
def fleuronref18_Swept.B1 : List Nat := [0, 0, 3, 0, 0, 31, 63, 127, 255]
mutual
def pen_Grow.j0 : Nat → List (S33) → Int → Bool → Option ((List (S33)) × Int)
  | 0, _, _, _ => none
  | k + 1, x0, x1, x19 => if x19 = true then (some (([] : List (S33)), 2)) else (if 0 ≤ (x0.length : Int) then (if ((x0.length : Int) : Int).toNat ≤ 17592186044416 then (pen_Grow.l0 k x1 (List.replicate ((x0.length : Int) : Int).toNat z33) x0 (x0.length : Int) 0) else (none)) else (none))
def pen_Grow.l0 : Nat → Int → List (S33) → List (S33) → Int → Int → Option ((List (S33)) × Int)
  | 0, _, _, _, _, _ => none
  | k + 1, x1, x6, x23, x24, x25 => if x25 < x24 then (if 0 ≤ x25 then (if x25 < (x23.length : Int) then (if x25 < (x6.length : Int) then (pen_Grow.l0 k x1 (x6.set (x25 : Int).toNat (⟨wrap64 (((rd_T33 x23 x25).f0) * x1), wrap64 (((rd_T33 x23 x25).f1) * x1)⟩ : S33)) x23 x24 (wrap64 (x25 + 1))) else (none)) else (none)) else (none)) else ((flat_ArePoints.f x6).bind fun t264 => (if t264 = true then ((pen_hull.f x6).bind fun t265 => ((pen_fits.f t265).bind fun bt268 => (some (bt268.1, bt268.2)))) else (some (([] : List (S33)), 17))))
end
def pen_Grow.f (k : Nat) (l0 : List (S33)) (a1 : Int) : Option ((List (S33)) × Int) := (pen_Valid.f l0).bind fun t257 => (if t257 = true then (if a1 < 0 then (pen_Grow.j0 k l0 a1 true) else (pen_Grow.j0 k l0 a1 (decide (a1 > 1000)))) else (pen_Grow.j0 k l0 a1 true))
def fleuronref18_Sweep.j0 : Nat → List (S33) → Bool → Int → Int → Int → Int → Option ((List (S33)) × Int)
  | 0, _, _, _, _, _, _ => none
  | k + 1, x0, x21, x221000, x221001, x222000, x222001 => if x21 = true then (some (([] : List (S33)), 2)) else ((fleuronref18_Swept.f k x0 x221000 x221001 x222000 x222001).bind fun t225 => ((fleuronref16_All.f k t225).bind fun t228 => (if t228 = true then (some (t225, 0)) else (some (([] : List (S33)), 17)))))
def fleuronref18_Sweep.f (k : Nat) (l0 : List (S33)) (a1_0 : Int) (a1_1 : Int) (a2_0 : Int) (a2_1 : Int) : Option ((List (S33)) × Int) := (fleuronref18_Valid.f k l0).bind fun t222 => (if t222 = true then ((fleuronref16_In.f a1_0 a1_1).bind fun t223 => (if t223 = true then ((fleuronref16_In.f a2_0 a2_1).bind fun t224 => (fleuronref18_Sweep.j0 k l0 (!t224) a1_0 a1_1 a2_0 a2_1)) else (fleuronref18_Sweep.j0 k l0 true a1_0 a1_1 a2_0 a2_1))) else (fleuronref18_Sweep.j0 k l0 true a1_0 a1_1 a2_0 a2_1))
def fleuronref18_Covers.f (k : Nat) (l0 : List S33) (a1_0 a1_1 a2_0 a2_1 a3_0 a3_1 : Int) : Option (Bool × Int) := (fleuronref18_Valid.f k l0).bind fun v => if v = true then (fleuronref16_All.f k [⟨a1_0, a1_1⟩, ⟨a2_0, a2_1⟩, ⟨a3_0, a3_1⟩]).bind fun b => if b = true then (fleuronref18_Swept.f k l0 a1_0 a1_1 a2_0 a2_1).bind fun h => (fleuronref18_Has.f h a3_0 a3_1).bind fun q => some (q, 0) else some (false, 2) else some (false, 2)
def fleuronlaw18_PenCovers.P (k : Nat) (l0 : List S33) (x0 y0 x1 y1 x2 y2 : Int) : Prop := fleuronlaw18_few.f k 70 [l0] = some false ∨ (fleuronlaw18_few.f k 70 [l0] = some true ∧ ∃ s e1 x e2, pen_Sweep.f l0 x0 y0 x1 y1 = some (s, e1) ∧ fleuronref18_Sweep.f k l0 x0 y0 x1 y1 = some (s, e1) ∧ pen_Covers.f l0 x0 y0 x1 y1 x2 y2 = some (x, e2) ∧ fleuronref18_Covers.f k l0 x0 y0 x1 y1 x2 y2 = some (x, e2) ∧ fleuronref16_Same.f k s s = some true)
def fleuronref18_Drawn.f (k : Nat) (l0 : List (S33)) (l1 : List (S33)) : Option (Bool) := (fleuronref18_Valid.f k l0).bind fun t229 => (if t229 = true then (if (l1.length : Int) ≥ 1 then (if (l1.length : Int) ≤ 60000 then ((fleuronref16_All.f k l1).bind fun t230 => (some t230)) else (some false)) else (some false)) else (some false))
def fleuronref18_One.l0 : Nat → List (List (S33)) → Int → Int → Int → Int → Option (Bool)
  | 0, _, _, _, _, _ => none
  | k + 1, x7, x8, x9, x232000, x232001 => if x9 < x8 then (if 0 ≤ x9 then (if x9 < (x7.length : Int) then ((fleuronref18_Has.f (rd_L2 x7 x9) x232000 x232001).bind fun t233 => (if t233 = true then (some true) else (fleuronref18_One.l0 k x7 x8 (wrap64 (x9 + 1)) x232000 x232001))) else (none)) else (none)) else (some false)
def fleuronref18_One.f (k : Nat) (l0 : List (List (S33))) (a1_0 : Int) (a1_1 : Int) : Option (Bool) := fleuronref18_One.l0 k l0 (l0.length : Int) 0 a1_0 a1_1
def fleuronref18_Hulls.l0 : Nat → List (S33) → List (S33) → List (List (S33)) → Int → Int → Option ((List (List (S33))))
  | 0, _, _, _, _, _ => none
  | k + 1, x0, x1, x5, x18, x19 => if x19 < x18 then (if 0 ≤ x19 then (if x19 < (x1.length : Int) then (if 0 ≤ (wrap64 (x19 + 1)) then (if (wrap64 (x19 + 1)) < (x1.length : Int) then ((fleuronref18_Swept.f k x0 ((rd_T33 x1 x19).f0) ((rd_T33 x1 x19).f1) ((rd_T33 x1 (wrap64 (x19 + 1))).f0) ((rd_T33 x1 (wrap64 (x19 + 1))).f1)).bind fun t243 => (if x5.length < 5864062014805 then (fleuronref18_Hulls.l0 k x0 x1 (x5 ++ [t243]) x18 (wrap64 (x19 + 1))) else (none))) else (none)) else (none)) else (none)) else (none)) else (some x5)
def fleuronref18_Hulls.f (k : Nat) (l0 : List (S33)) (l1 : List (S33)) : Option ((List (List (S33)))) := if (l1.length : Int) = 1 then (if 0 < (l1.length : Int) then ((fleuronref18_plus.f k l0 ((rd_T33 l1 0).f0) ((rd_T33 l1 0).f1)).bind fun t235 => (some (([t235] : List (List (S33)))))) else (none)) else (fleuronref18_Hulls.l0 k l0 l1 ([] : List (List (S33))) (wrap64 ((l1.length : Int) - 1)) 0)
def fleuronref18_Hulls.T7 : Bool × List (List Nat × List Nat) := (true, [([], []), ([], []), ([], []), ([], []), ([2, 3], [2, 3]), ([4], [4]), ([], []), ([], []), ([7], [7]), ([6, 8], [6, 8]), ([9], [9]), ([1, 5, 10], [1, 5, 10]), ([11], [11]), ([0, 12, 11], [0, 12]), ([13, 13, 0, 1, 2, 3, 4, 5, 6, 7, 8, 9, 10, 11, 12, 13], [0, 13])])
def fleuronref18_Hulls.B7 : List Nat := [0, 0, 0, 0, 12, 28, 0, 0, 128, 448, 960, 2046, 4094, 8191, 16383]
def fleuronref18_Along.j0 : Nat → List (S33) → List (S33) → Bool → Int → Int → Option (Bool × Int)
  | 0, _, _, _, _, _ => none
  | k + 1, x0, x1, x16, x250000, x250001 => if x16 = true then (some (false, 2)) else ((fleuronref18_Hulls.f k x0 x1).bind fun t252 => ((fleuronref18_One.f k t252 x250000 x250001).bind fun t255 => (some (t255, 0))))
def fleuronref18_Along.f (k : Nat) (l0 : List (S33)) (l1 : List (S33)) (a2_0 : Int) (a2_1 : Int) : Option (Bool × Int) := (fleuronref18_Drawn.f k l0 l1).bind fun t250 => (if t250 = true then ((fleuronref16_In.f a2_0 a2_1).bind fun t251 => (fleuronref18_Along.j0 k l0 l1 (!t251) a2_0 a2_1)) else (fleuronref18_Along.j0 k l0 l1 true a2_0 a2_1))
def fleuronlaw18_PenAlong.P (k : Nat) (l0 l1 : List S33) (x0 y0 : Int) : Prop := fleuronlaw18_few.f k 70 [l0] = some false ∨ (fleuronlaw18_few.f k 70 [l0] = some true ∧ (fleuronlaw18_few.f k 60 [l1] = some false ∨ (fleuronlaw18_few.f k 60 [l1] = some true ∧ ∃ x e, pen_Along.f l0 l1 x0 y0 = some (x, e) ∧ fleuronref18_Along.f k l0 l1 x0 y0 = some (x, e))))
def mAt (x0 y0 x1 y1 x2 y2 d0 d1 : Int) : Nat → Array Value
  | 0 => #[.int .i64 0, .int .i64 0, .int .i64 0, .int .i64 0, .int .i64 0, .int .i64 0]
  | 1 => #[.int .i64 (wrap64 (x0 + d0)), .int .i64 (wrap64 (y0 + d1)), .int .i64 0, .int .i64 0, .int .i64 0, .int .i64 0]
  | 2 => #[.int .i64 (wrap64 (x0 + d0)), .int .i64 (wrap64 (y0 + d1)), .int .i64 (wrap64 (x1 + d0)), .int .i64 (wrap64 (y1 + d1)), .int .i64 0, .int .i64 0]
  | _ => #[.int .i64 (wrap64 (x0 + d0)), .int .i64 (wrap64 (y0 + d1)), .int .i64 (wrap64 (x1 + d0)), .int .i64 (wrap64 (y1 + d1)), .int .i64 (wrap64 (x2 + d0)), .int .i64 (wrap64 (y2 + d1))]
def fleuronlaw18_PenSweeps.P (k : Nat) (l0 : List S33) (x0 y0 x1 y1 x2 y2 d0 d1 : Int) : Prop := fleuronlaw18_few.f k 70 [l0] = some false ∨ (fleuronlaw18_few.f k 70 [l0] = some true ∧ ∃ is e, pen_Covers.f l0 x0 y0 x1 y1 x2 y2 = some (is, e) ∧ ((e = 2 ∧ is = false) ∨ (e = 0 ∧ pen_Covers.f l0 x1 y1 x0 y0 x2 y2 = some (is, 0) ∧ ∃ one, pen_Covers.f l0 x0 y0 x0 y0 x2 y2 = some (one, 0) ∧ (one = true → is = true) ∧ ∃ l h, pen_Sweep.f l0 x0 y0 x1 y1 = some (l, h) ∧ ((h = 0 ∧ fleuronref18_Has.f l x2 y2 = some is) ∨ h = 17) ∧
  (fleuronref16_In.f d0 d1 = some false ∨ (fleuronref16_In.f d0 d1 = some true ∧ (fleuronref16_All.f k [⟨wrap64 (x0 + d0), wrap64 (y0 + d1)⟩, ⟨wrap64 (x1 + d0), wrap64 (y1 + d1)⟩, ⟨wrap64 (x2 + d0), wrap64 (y2 + d1)⟩] = some false ∨ (fleuronref16_All.f k [⟨wrap64 (x0 + d0), wrap64 (y0 + d1)⟩, ⟨wrap64 (x1 + d0), wrap64 (y1 + d1)⟩, ⟨wrap64 (x2 + d0), wrap64 (y2 + d1)⟩] = some true ∧ pen_Covers.f l0 (wrap64 (x0 + d0)) (wrap64 (y0 + d1)) (wrap64 (x1 + d0)) (wrap64 (y1 + d1)) (wrap64 (x2 + d0)) (wrap64 (y2 + d1)) = some (is, 0))))))))
def fleuronlaw18_PenTurned.P (k : Nat) (l0 l1 : List S33) (x0 y0 x1 y1 x2 y2 : Int) : Prop := fleuronlaw18_few.f k 130 [l0, l1] = some false ∨ (fleuronlaw18_few.f k 130 [l0, l1] = some true ∧ (pen_Turn.f l0 = some ([], 2) ∨ ∃ (t : List S33) (is : Bool × Int), pen_Turn.f l0 = some (t, 0) ∧ pen_Turn.f t = some (l0, 0) ∧ pen_Covers.f l0 x0 y0 x0 y0 x1 y1 = some (is.1, is.2) ∧ pen_Covers.f t x1 y1 x1 y1 x0 y0 = some (is.1, is.2) ∧ fleuronref16_Same.f k l0 l0 = some true ∧ ∃ s i, pen_Sum.f k l0 l1 = some (s, i) ∧
  ((i ≠ 0 ∨ (i = 0 ∧ fleuronref16_In.f x2 y2 = some false)) ∨ (i = 0 ∧ fleuronref16_In.f x2 y2 = some true ∧ ∃ a0 a1 b0 b1 c0 c1, pen_Touch.f l0 x2 y2 = some (a0, a1, 0) ∧ pen_Touch.f l1 x2 y2 = some (b0, b1, 0) ∧ pen_Touch.f s x2 y2 = some (c0, c1, 0) ∧ wrap64 (wrap64 (x2 * wrap64 (a0 + b0)) + wrap64 (y2 * wrap64 (a1 + b1))) = wrap64 (wrap64 (x2 * c0) + wrap64 (y2 * c1))))))
def fleuronlaw18_same.f (k : Nat) (l0 : List (S33)) (l1 : List (S33)) (a2 : Int) (a3 : Int) : Option (Bool) := if a2 = 0 then (if a3 = 0 then ((fleuronref16_Same.f k l0 l1).bind fun t256 => (some t256)) else (if a3 = 17 then (some true) else (some (a3 == 3)))) else (if a2 = 17 then (if a3 = 0 then (some true) else (if a3 = 17 then (some true) else (some (a3 == 3)))) else (if a2 = 3 then (if a3 = 0 then (some true) else (if a3 = 17 then (some true) else (some (a3 == 3)))) else (some false)))
def zz (e g : Int) : Bool := e == 0 && g == 0
def gi (n : Int) : Int := wrap64 (Int.tmod (IntKind.u64.wrap n) 31)
def fleuronlaw18_PenRing.P (k : Nat) (l0 l1 l2 : List S33) (n0 n1 : Int) : Prop := fleuronlaw18_few.f k 130 [l0, l1, l2] = some false ∨ (fleuronlaw18_few.f k 130 [l0, l1, l2] = some true ∧ (fleuronref18_Valid.f k l0 = some false ∨ (fleuronref18_Valid.f k l0 = some true ∧ (fleuronref18_Valid.f k l1 = some false ∨ (fleuronref18_Valid.f k l1 = some true ∧ (fleuronref18_Valid.f k l2 = some false ∨ (fleuronref18_Valid.f k l2 = some true ∧ 1 ≤ l1.length ∧
  ∃ ab e, pen_Sum.f k l0 l1 = some (ab, e) ∧ pen_Sum.f k l1 l0 = some (ab, e) ∧ fleuronref16_Same.f k ab ab = some true ∧ ∃ bc g, pen_Sum.f k l1 l2 = some (bc, g) ∧ ((e = 0 ∧ g = 0 ∧ ∃ x h y i, pen_Sum.f k ab l2 = some (x, h) ∧ pen_Sum.f k l0 bc = some (y, i) ∧ fleuronlaw18_same.f k x y h i = some true) ∨ ¬ (e = 0 ∧ g = 0)) ∧
  ∃ a h, pen_Sum.f k l0 [rd_T33 l1 0] = some (a, h) ∧ (∀ j : Nat, j < a.length → j < l0.length ∧ rd_T33 a (j : Int) = ⟨wrap64 ((rd_T33 l0 (j : Int)).f0 + (rd_T33 l1 0).f0), wrap64 ((rd_T33 l0 (j : Int)).f1 + (rd_T33 l1 0).f1)⟩) ∧ ((h = 0 ∧ a.length = l0.length) ∨ h = 17) ∧
  ∃ x p, pen_Grow.f k l0 (gi n0) = some (x, p) ∧ ∃ y q, pen_Grow.f k l0 (wrap64 (gi n0 * gi n1)) = some (y, q) ∧ (p = 17 ∨ (p = 0 ∧ pen_Grow.f k x (gi n1) = some (y, q) ∧ fleuronref16_Same.f k y y = some true)))))))))
def fleuronlaw18_copied.f (l0 : List (S33)) : Option ((List (S33))) := (some (([] : List (S33)) : List (S33))).bind fun y272 => (if y272.length + l0.length < 8796093022208 then (some (y272 ++ l0)) else (none))
mutual
def fleuronref18_Sum.j0 : Nat → List (S33) → List (S33) → Bool → Option ((List (S33)) × Int)
  | 0, _, _, _ => none
  | k + 1, x0, x1, x17 => if x17 = true then (some (([] : List (S33)), 2)) else (fleuronref18_Sum.l0 k x0 ([] : List (S33)) x1 (x1.length : Int) 0)
def fleuronref18_Sum.l0 : Nat → List (S33) → List (S33) → List (S33) → Int → Int → Option ((List (S33)) × Int)
  | 0, _, _, _, _, _ => none
  | k + 1, x0, x6, x18, x19, x20 => if x20 < x19 then (if 0 ≤ x20 then (if x20 < (x18.length : Int) then ((fleuronref18_plus.f k x0 ((rd_T33 x18 x20).f0) ((rd_T33 x18 x20).f1)).bind fun t282 => (if x6.length + t282.length < 8796093022208 then (fleuronref18_Sum.l0 k x0 (x6 ++ t282) x18 x19 (wrap64 (x20 + 1))) else (none))) else (none)) else (none)) else ((fleuronref18_Round.f x6).bind fun t288 => ((fleuronref16_All.f k t288).bind fun t291 => (if t291 = true then (if (t288.length : Int) > 64 then (some (([] : List (S33)), 3)) else (some (t288, 0))) else (some (([] : List (S33)), 17)))))
end
def fleuronref18_Sum.f (k : Nat) (l0 : List (S33)) (l1 : List (S33)) : Option ((List (S33)) × Int) := (fleuronref18_Valid.f k l0).bind fun t278 => (if t278 = true then ((fleuronref18_Valid.f k l1).bind fun t279 => (fleuronref18_Sum.j0 k l0 l1 (!t279))) else (fleuronref18_Sum.j0 k l0 l1 true))
def fleuronref18_Turn.l0 : Nat → List (S33) → List (S33) → Int → Int → Option ((List (S33)) × Int)
  | 0, _, _, _, _ => none
  | k + 1, x4, x10, x11, x12 => if x12 < x11 then (if 0 ≤ x12 then (if x12 < (x10.length : Int) then (if x4.length < 8796093022208 then (fleuronref18_Turn.l0 k (x4 ++ [(⟨wrap64 (-((rd_T33 x10 x12).f0)), wrap64 (-((rd_T33 x10 x12).f1))⟩ : S33)]) x10 x11 (wrap64 (x12 + 1))) else (none)) else (none)) else (none)) else ((fleuronref18_Round.f x4).bind fun t298 => (some (t298, 0)))
def fleuronref18_Turn.f (k : Nat) (l0 : List (S33)) : Option ((List (S33)) × Int) := (fleuronref18_Valid.f k l0).bind fun t292 => (if t292 = true then (fleuronref18_Turn.l0 k ([] : List (S33)) l0 (l0.length : Int) 0) else (some (([] : List (S33)), 2)))
mutual
def fleuronref18_Grow.j0 : Nat → List (S33) → Int → Bool → Option ((List (S33)) × Int)
  | 0, _, _, _ => none
  | k + 1, x0, x1, x19 => if x19 = true then (some (([] : List (S33)), 2)) else (fleuronref18_Grow.l0 k x1 ([] : List (S33)) x0 (x0.length : Int) 0)
def fleuronref18_Grow.l0 : Nat → Int → List (S33) → List (S33) → Int → Int → Option ((List (S33)) × Int)
  | 0, _, _, _, _, _ => none
  | k + 1, x1, x6, x20, x21, x22 => if x22 < x21 then (if 0 ≤ x22 then (if x22 < (x20.length : Int) then (if x6.length < 8796093022208 then (fleuronref18_Grow.l0 k x1 (x6 ++ [(⟨wrap64 (((rd_T33 x20 x22).f0) * x1), wrap64 (((rd_T33 x20 x22).f1) * x1)⟩ : S33)]) x20 x21 (wrap64 (x22 + 1))) else (none)) else (none)) else (none)) else ((fleuronref16_All.f k x6).bind fun t307 => (if t307 = true then ((fleuronref18_Round.f x6).bind fun t308 => (some (t308, 0))) else (some (([] : List (S33)), 17))))
end
def fleuronref18_Grow.f (k : Nat) (l0 : List (S33)) (a1 : Int) : Option ((List (S33)) × Int) := (fleuronref18_Valid.f k l0).bind fun t301 => (if t301 = true then (if a1 < 0 then (fleuronref18_Grow.j0 k l0 a1 true) else (fleuronref18_Grow.j0 k l0 a1 (decide (a1 > 1000)))) else (fleuronref18_Grow.j0 k l0 a1 true))
def pen_Box.f (l0 : List S33) : Option ((Int × Int × Int × Int) × Int) := (pen_Valid.f l0).bind fun v => if v = true then (flat_Bounds.f l0).bind fun b => some (b, 0) else some ((0, 0, 0, 0), 2)
def fleuronref18_Box.f (l0 : List S33) : Option ((Int × Int × Int × Int) × Int) := (fleuronref18_Valid.f (l0.length + 10) l0).bind fun v => if v = true then (fleuronref16_Bounds.f l0).bind fun b => some (b, 0) else some ((0, 0, 0, 0), 2)
mutual
def fleuronref18_Touch.j0 : Nat → List (S33) → Bool → Int → Int → Option (Int × Int × Int)
  | 0, _, _, _, _ => none
  | k + 1, x0, x16, x312000, x312001 => if x16 = true then (some (0, 0, 2)) else (if 0 < (x0.length : Int) then (fleuronref18_Touch.l0 k x0 (x0.length : Int) 0 x312000 x312001 ((rd_T33 x0 0).f0) ((rd_T33 x0 0).f1)) else (none))
def fleuronref18_Touch.l0 : Nat → List (S33) → Int → Int → Int → Int → Int → Int → Option (Int × Int × Int)
  | 0, _, _, _, _, _, _, _ => none
  | k + 1, x21, x22, x23, x312000, x312001, x317000, x317001 => if x23 < x22 then (if 0 ≤ x23 then (if x23 < (x21.length : Int) then (if (wrap64 ((wrap64 (x312000 * ((rd_T33 x21 x23).f0))) + (wrap64 (x312001 * ((rd_T33 x21 x23).f1))))) > (wrap64 ((wrap64 (x312000 * x317000)) + (wrap64 (x312001 * x317001)))) then (fleuronref18_Touch.l0 k x21 x22 (wrap64 (x23 + 1)) x312000 x312001 ((rd_T33 x21 x23).f0) ((rd_T33 x21 x23).f1)) else (fleuronref18_Touch.l0 k x21 x22 (wrap64 (x23 + 1)) x312000 x312001 x317000 x317001)) else (none)) else (none)) else (some (x317000, x317001, 0))
end
def fleuronref18_Touch.f (k : Nat) (l0 : List (S33)) (a1_0 : Int) (a1_1 : Int) : Option (Int × Int × Int) := (fleuronref18_Valid.f k l0).bind fun t313 => (if t313 = true then ((fleuronref16_In.f a1_0 a1_1).bind fun t314 => (fleuronref18_Touch.j0 k l0 (!t314) a1_0 a1_1)) else (fleuronref18_Touch.j0 k l0 true a1_0 a1_1))
def fleuronlaw18_PenSums.P (k : Nat) (l0 l1 : List S33) (n x0 y0 : Int) : Prop := fleuronlaw18_few.f k 130 [l0, l1] = some false ∨ (fleuronlaw18_few.f k 130 [l0, l1] = some true ∧ fleuronlaw18_copied.f l0 = some l0 ∧ ∃ p e1 q e2 s e3 m e4 t0 t1 e5, pen_Sum.f k l0 l1 = some (p, e1) ∧ fleuronref18_Sum.f k l0 l1 = some (p, e1) ∧ pen_Turn.f l0 = some (q, e2) ∧ fleuronref18_Turn.f k l0 = some (q, e2) ∧ pen_Grow.f k l0 n = some (s, e3) ∧ fleuronref18_Grow.f k l0 n = some (s, e3) ∧ pen_Box.f l0 = some (m, e4) ∧ fleuronref18_Box.f l0 = some (m, e4) ∧ pen_Touch.f l0 x0 y0 = some (t0, t1, e5) ∧ fleuronref18_Touch.f k l0 x0 y0 = some (t0, t1, e5) ∧ fleuronref16_Same.f k p p = some true ∧ fleuronref16_Same.f k q q = some true ∧ fleuronref16_Same.f k s s = some true ∧ fleuronref16_Same.f k l0 l0 = some true)
def pen_compare.f (k : Nat) (a0_0 : Int) (a0_1 : Int) (a1_0 : Int) (a1_1 : Int) : Option (Int) := (cmp_Compare_int.f a0_0 a1_0).bind fun t109 => ((cmp_Compare_int.f a0_1 a1_1).bind fun t110 => ((cmp_Or_int.f k (([t109, t110] : List Int))).bind fun t114 => (some t114)))
def pen_compare.T1 : Bool × List (List Nat × List Nat) := (true, [([], []), ([0], [0]), ([], []), ([2], [2]), ([1, 3], [1, 3]), ([], []), ([5], [5]), ([], []), ([7], [7]), ([6, 8, 4], [6, 8]), ([4, 9], [4, 9]), ([10, 9], [10]), ([11, 11, 0, 1, 2, 3, 4, 5, 6, 7, 8, 9, 10, 11], [11])])
def pen_compare.B1 : List Nat := [0, 1, 0, 4, 15, 0, 32, 0, 128, 511, 1023, 2047, 4095]
end Go.Proofs.Ytnjlcmaelacjkaa.PD3
