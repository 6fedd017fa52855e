/-
  Plain laws: sums over the edges of a polygon.
-/
import Derived.Test.YtdhgekogaoiidaaLibU
import Derived.Test.YtdhgekogaoiidaaPT5x3
set_option linter.unusedVariables false
set_option linter.unusedSimpArgs false
namespace Go.Proofs.Ytdhgekogaoiidaa.PT5
open Go.RowKit Go.Proofs.YtdhgekogaoiidaaW.PrintWords Go.Proofs.YtdhgekogaoiidaaW.PrintLast Go.Proofs.YtdhgekogaoiidaaW.PrintMore
/-! ### Sums -/
def sumTo (g : Nat → Int) : Nat → Int
  | 0 => 0
  | i + 1 => sumTo g i + g i
theorem sumTo_congr {f g : Nat → Int} : ∀ (n : Nat), (∀ i, i < n → f i = g i) → sumTo f n = sumTo g n
  | 0, _ => rfl
  | n + 1, h => by
    simp only [sumTo]
    rw [sumTo_congr n (fun i hi => h i (by omega)), h n (by omega)]
theorem sumTo_add (g : Nat → Int) (a : Nat) : ∀ b, sumTo g (a + b) = sumTo g a + sumTo (fun i => g (a + i)) b
  | 0 => by simp [sumTo]
  | b + 1 => by
    rw [← Nat.add_assoc]
    simp only [sumTo]
    rw [sumTo_add g a b]
    omega
theorem sumTo_rev (g : Nat → Int) : ∀ n, sumTo (fun i => g (n - 1 - i)) n = sumTo g n
  | 0 => rfl
  | n + 1 => by
    have h := sumTo_add (fun i => g (n + 1 - 1 - i)) 1 n
    rw [show 1 + n = n + 1 by omega] at h
    rw [h, sumTo_congr (f := fun i => g (n + 1 - 1 - (1 + i))) (g := fun i => g (n - 1 - i)) n (fun i hi => by congr 1; omega), sumTo_rev g n]
    simp only [sumTo, Nat.add_sub_cancel, Nat.sub_zero]
    omega
theorem sumTo_neg (g : Nat → Int) : ∀ n, sumTo (fun i => - g i) n = - sumTo g n
  | 0 => rfl
  | n + 1 => by simp only [sumTo]; rw [sumTo_neg g n]; omega
theorem sumTo_plus (f g : Nat → Int) : ∀ n, sumTo (fun i => f i + g i) n = sumTo f n + sumTo g n
  | 0 => rfl
  | n + 1 => by simp only [sumTo]; rw [sumTo_plus f g n]; omega
theorem sumTo_rot (g : Nat → Int) (n k : Nat) (hk : k ≤ n) : sumTo (fun i => g ((i + k) % n)) n = sumTo g n := by
  have h := sumTo_add (fun i => g ((i + k) % n)) (n - k) k
  rw [show n - k + k = n by omega] at h
  rw [h, sumTo_congr (f := fun i => g ((i + k) % n)) (g := fun i => g (k + i)) (n - k) (fun i hi => by rw [Nat.mod_eq_of_lt (by omega), Nat.add_comm]),
    sumTo_congr (f := fun i => g ((n - k + i + k) % n)) (g := g) k (fun i hi => by rw [show n - k + i + k = i + n by omega, Nat.add_mod_right, Nat.mod_eq_of_lt (by omega)])]
  have h2 := sumTo_add g k (n - k)
  rw [show k + (n - k) = n by omega] at h2
  rw [h2]
  omega
theorem csum_sum (l : List S24) (p : S24) (s : Int) (o : Int → Int) : ∀ n, csum l p s o n = sumTo (fun i => ctermB (rd_T24 l (i : Int)) (nxt l i) p s o) n
  | 0 => rfl
  | n + 1 => by simp only [csum, sumTo]; rw [csum_sum l p s o n]
end Go.Proofs.Ytdhgekogaoiidaa.PT5
