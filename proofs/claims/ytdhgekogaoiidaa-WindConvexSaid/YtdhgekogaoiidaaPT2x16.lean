/- What functions of the program come to, each with the proof that the machine's call does just that; written by a program of this session out of the translation. -/
import Derived.Test.YtdhgekogaoiidaaPT2x0
import Derived.Test.YtdhgekogaoiidaaPT2x2
import Derived.Test.YtdhgekogaoiidaaPT2x4
namespace Go.Proofs.Ytdhgekogaoiidaa.PT2
open Go.RowKit Go.Proofs.YtdhgekogaoiidaaW.PrintWords Go.Proofs.YtdhgekogaoiidaaW.PrintLast Go.Proofs.YtdhgekogaoiidaaW.PrintMore
attribute [local go_sem] max2_int min2_int max_two min_two max_three min_three max_four min_four   -- for this text's walks alone
set_option linter.unusedVariables false
set_option linter.unusedSimpArgs false

/-! ### api_Point_64: function 64 (by hand) -/
def api_Point_64.f (l0 : List S24) : Option (List S24) := if l0.length < 8796093022208 then some l0 else none
set_option maxHeartbeats 4000000 in
set_option maxRecDepth 100000 in
theorem api_Point_64.calls (A0 : Option Addr) (c0 : Nat) (l0 : List S24) (r : List S24) (w : World) (hr0 : Kd.C k24 w A0 l0.length l0) (hc0 : l0.length ≤ c0) (h : api_Point_64.f l0 = some r) :
    Calls Try.prog 64 #[.slice A0 l0.length c0] w fun e w' => ∃ v0_ : Value, e = .returned (v0_) ∧ Kd.R k24 24 w' w.heap.size (fun _ => True) v0_ r ∧ Below w.heap.size w w' := by
  unfold api_Point_64.f at h
  by_cases hl : l0.length < 8796093022208
  · rw [if_pos hl] at h
    obtain rfl : l0 = r := Option.some.inj h
    have hnil := fun (V : World) (A0 : Option Addr) (n c : Nat) => Lib.run_eql_slice_nil (P := Try.prog) V 31 24 A0 n c 0 0 Try.underlying31
    have HR0 := Aside0.mk hr0
    have HL := Aside0.mk hl
    clear hr0 h hl
    have HB := Aside0.mk (Below.refl w.heap.size w)
    cases A0 with
    | none =>
      have he : l0 = [] := by
        rcases Nat.eq_zero_or_pos l0.length with h0 | h0
        · exact List.length_eq_zero_iff.mp h0
        · obtain ⟨ad, e, _⟩ := HR0.out.2.2 h0
          cases e
      subst he
      go_enter Try.func64, Try.ntmps64
      go_wp2
      go_ret
      exact ⟨_, rfl, Kd.R_nil _ _ _ _ _, Below.refl _ _⟩
    | some ad =>
      go_enter Try.func64, Try.ntmps64
      go_wp2_with (first | ((with_reducible refine gate_dst (N := 5) rfl ?_); refine Kd.R_lit k24 _ 24 ?hg (N := 5) ?hd (xs := ([] : List S24)) (inner := []) (ok := fun _ => True) (okp := fun _ => True) ?hr ?hp (fun _ hk => hk) trivial (Below.refl _ _) (Nat.le_refl _) (by simp) ?_; (case hd => rfl); (case hg => rfl); (case hr => first | (go_simp; done) | (go_simp; rfl)); (case hp => exact (Reps.none _ _)); intro v187 w3 ho4 hb hg_ hnew_; clear hg_ hnew_; have n0_ := Aside0.mk (Kd.R_lower ho4 (below_size HB.out)); have n1_ := Aside0.mk (below_step HB.out hb); clear HB; have HO188 := n0_; have HB := n1_; clear n0_ n1_; clear hb ho4) | ((with_reducible refine gate_builtin (b := .append) (xs := #[.tmp 5, .tmp 6]) rfl ?_); at_builtin; refine Kd.R_append_rows k24 (w0 := w) w.heap.size rfl (.tmp 5) (.tmp 6) 31 24 (.agg #[(.int .i64 0), (.int .i64 0)]) 16 rfl Try.underlying31 info24 rfl (by decide) (by omega) v187 [] l0 _ _ _ (fun _ => True) (fun _ => False) rfl rfl ?aO ?aR (fun _ _ h => h) (fun _ h => h.elim) ?aF ?aB ?aS ?aL ?_; (case aR => repeat (first | exact (Kd.C_below HR0.out HB.out) | (with_reducible refine Kd.C_alloc ?_ _) | (with_reducible refine Kd.C_drewN ?_ _) | (with_reducible refine Kd.C_drew ?_))); (case aB => exact (by repeat (first | (with_reducible first | exact HB.out | apply below_alloc | apply pw_below_drewN | apply below_drew1) | exact HB.out))); (case aF => exact (fun _ _ => trivial)); (case aO => exact (by (with_reducible repeat (first | apply Kd.R_alloc | apply Kd.R_drewN | apply Kd.R_drew)); exact HO188.out)); (case aS => exact (below_size (by repeat (first | (with_reducible first | exact HB.out | apply below_alloc | apply pw_below_drewN | apply below_drew1) | exact HB.out)))); (case aL => have := HL.out; simp only [List.length_nil]; omega); intro v190 w5 ho hb hg hat; have n0_ := Aside0.mk (hb); have n1_ := Aside0.mk (ho); clear HB; clear HO188; have HB := n0_; have HO191 := n1_; clear n0_ n1_; clear ho hb hg hat))
      go_ret
      exact ⟨_, rfl, by (with_reducible repeat (first | apply Kd.R_alloc | apply Kd.R_drewN | apply Kd.R_drew)); exact HO191.out, by repeat (first | (with_reducible first | exact HB.out | apply below_alloc | apply pw_below_drewN | apply below_drew1) | exact HB.out)⟩
  · rw [if_neg hl] at h
    exact absurd h (by simp)

/-! ### api_Point_65: function 65 (by hand) -/
instance instPt : Inhabited S24 := ⟨z24⟩
def encP (x : S24) : List Value := [.int .i64 x.f0, .int .i64 x.f1]
theorem get_flatP (xs : List S24) (j : Nat) (hj : j < xs.length) (q : Nat) (hq : q < 2) : (Go.Sort.flatK encP 2 xs.toArray)[j * 2 + q]? = (encP xs[j])[q]? := by
  have h1 : j * 2 + q < xs.length * 2 := by omega
  have h2 : (j * 2 + q) / 2 = j := by omega
  have h3 : (j * 2 + q) % 2 = q := by omega
  have h4 := Go.Sort.get_flatK encP 2 xs.toArray (j * 2 + q) (by simpa using h1)
  rw [h2, h3] at h4
  have h5 : j * 2 + q < (Go.Sort.flatK encP 2 xs.toArray).size := by simpa using h1
  have h6 : xs.toArray[j]! = xs[j] := by simp [hj]
  rw [h6, getElem!_pos (Go.Sort.flatK encP 2 xs.toArray) (j * 2 + q) h5] at h4
  rw [Array.getElem?_eq_getElem h5, h4]
  have h7 : q < (encP xs[j]).length := hq
  rw [getElem!_pos (encP xs[j]) q h7, List.getElem?_eq_getElem h7]
theorem cells_flatP {w : World} {base : Nat} {ok : Nat → Prop} {xs : List S24} {cs : List Value} (h : Reps (k24.M w base ok) k24.sz xs cs) : Go.Sort.flatK encP 2 xs.toArray = cs.toArray := by
  obtain ⟨h1, h2⟩ := h
  have h1' : cs.length = xs.length * 2 := h1
  apply Array.ext_getElem?
  intro t
  by_cases ht : t < xs.length * 2
  · obtain ⟨j, q, hq, rfl⟩ : ∃ j q, q < 2 ∧ t = j * 2 + q := ⟨t / 2, t % 2, by omega, by omega⟩
    have hj : j < xs.length := by omega
    rw [get_flatP xs j hj q hq]
    have h3 := k24_openM (h2 j xs[j] (List.getElem?_eq_getElem hj))
    have h4 : (cs.drop (j * 2)).take 2 = encP xs[j] := h3
    rw [← h4, List.getElem?_take_of_lt hq, List.getElem?_drop]
    simp
  · rw [Array.getElem?_eq_none (by simp; omega), Array.getElem?_eq_none (by simp; omega)]
theorem reps_flatP {w : World} {base : Nat} {ok : Nat → Prop} (xs : List S24) : Reps (k24.M w base ok) k24.sz xs (Go.Sort.flatK encP 2 xs.toArray).toList := by
  refine ⟨by simp; rfl, fun j p hj => ?_⟩
  obtain ⟨hx, rfl⟩ := List.getElem?_eq_some_iff.1 hj
  have h : (((Go.Sort.flatK encP 2 xs.toArray).toList.drop (j * 2)).take 2) = encP xs[j] := by
    apply List.ext_getElem?
    intro q
    by_cases hq : q < 2
    · rw [List.getElem?_take_of_lt hq, List.getElem?_drop, Array.getElem?_toList, get_flatP xs j hx q hq]
    · rw [List.getElem?_take_eq_none (by omega), List.getElem?_eq_none (by simp [encP]; omega)]
  show k24.M w base ok xs[j] (((Go.Sort.flatK encP 2 xs.toArray).toList.drop (j * 2)).take 2)
  rw [h]
  exact k24_mkM w base ok xs[j]
theorem holds_row {w : World} {g : Nat} {cur : Array Value} {e : TypeId} {vs : List Value} (hb : w.heap[g]? = some (.cells cur e (0, 0))) (ht : cur.toList.take vs.length = vs) : Go.Sort.Holds id w g 0 vs.toArray := by
  intro j hj
  have hj' : j < vs.length := by simpa using hj
  refine ⟨?_, by simp [World.frozen?, hb]⟩
  have h1 : (cur.toList.take vs.length)[j]? = vs[j]? := by rw [ht]
  rw [List.getElem?_take_of_lt hj'] at h1
  simp only [World.cell?, hb, Nat.zero_add]
  simp only [Option.isSome_none, Bool.false_eq_true, if_false]
  rw [← Array.getElem?_toList, h1]
  simp [hj']
theorem heap_row {w : World} {g n : Nat} {cur : Array Value} {e : TypeId} {fr : Nat × Nat} (d : Array Value) (hb : w.heap[g]? = some (.cells cur e fr)) :
    (Go.Sort.putRow id (Go.Sort.ahead w n) g 0 d).heap[g]? = some (.cells (Go.Sort.putCells id 0 d cur) e fr) := by
  simp [Go.Sort.putRow, Go.Sort.mapBlock, Go.Sort.ahead, Array.getElem?_modify, hb, Go.Sort.onCells]
theorem grownBy_row {w : World} {g n : Nat} (d : Array Value) : w.grownBy (Go.Sort.putRow id (Go.Sort.ahead w n) g 0 d) (some g) := by
  refine ⟨rfl, rfl, rfl, by simp [Go.Sort.putRow, Go.Sort.mapBlock, Go.Sort.ahead], fun k hk hne => ?_⟩
  have : g ≠ k := fun e => hne (by rw [e])
  simp [Go.Sort.putRow, Go.Sort.mapBlock, Go.Sort.ahead, Array.getElem?_modify, this]
theorem take_row (cur F : Array Value) (h : F.size ≤ cur.size) : (Go.Sort.putCells id 0 F cur).toList.take F.size = F.toList := by
  apply List.ext_getElem?
  intro j
  by_cases hj : j < F.size
  · rw [List.getElem?_take_of_lt hj, Array.getElem?_toList]
    simp [Go.Sort.putCells, hj, show j < cur.size by omega]
  · rw [List.getElem?_take_eq_none (by omega), List.getElem?_eq_none (by simp; omega)]
def api_Point_65.f (l0 : List S24) : Option (List S24) := if l0.length ≤ 9223372036854775807 then some l0.reverse else none
theorem api_Point_65.calls (P0_ : Nat → Prop) (u9000_ : Value) (l0 : List S24) (r : List S24) (w0 w : World) (hB : Below w0.heap.size w0 w) (ho0 : Kd.R k24 24 w w0.heap.size P0_ u9000_ l0) (h : api_Point_65.f l0 = some r) :
    Calls Try.prog 65 #[u9000_] w fun e w' => e = .returned (.tuple #[]) ∧ Kd.R k24 24 w' w0.heap.size (fun k_ => (P0_ k_ ∨ w.heap.size ≤ k_)) u9000_ r ∧ Below w0.heap.size w0 w' ∧ Kept w w' (fun k_ => P0_ k_) := by
  unfold api_Point_65.f at h
  by_cases hl : l0.length ≤ 9223372036854775807
  · rw [if_pos hl] at h
    injection h with h
    obtain ⟨h0, inner, ho, hr⟩ := ho0
    have hi := cells_flatP hr
    rcases ho.2 with ⟨rfl, hn⟩ | ⟨g, cap, cur, rfl, hbase, hh, hle, hcap, hsz, htk⟩
    · have hl0 : l0 = [] := List.length_eq_zero_iff.mp hn
      subst hl0
      refine (Go.Proofs.AnyQ.slices_Reverse_empty Try.reverseP none 0 w).mono ?_
      rintro e w' ⟨rfl, rfl⟩
      refine ⟨rfl, ?_, hB, Kept.refl _ _⟩
      have : r = [] := by rw [← h]; rfl
      subst this
      exact Kd.R_nil _ _ _ _ _
    · have hk2 : k24.sz = 2 := rfl
      rw [hk2] at hsz htk
      have hin : inner.length = l0.length * 2 := hr.1
      have hH : Go.Sort.HoldsK encP 2 w g 0 l0.toArray := by
        unfold Go.Sort.HoldsK
        rw [hi]
        exact holds_row hh (by rw [hin]; exact htk)
      refine (Go.Proofs.AnyQ.slices_Reverse Try.reverseP 2 Try.isAgg24 Try.sizeOf24 encP (fun _ => rfl) (fun x v hv => by simp [encP] at hv; rcases hv with rfl | rfl <;> rfl) g 0 cap l0.toArray w hH hl).mono ?_
      rintro e w' ⟨rfl, n, rfl⟩
      have hrev : l0.toArray.reverse = r.toArray := by rw [← h]; simp
      rw [hrev]
      have hlen : r.length = l0.length := by rw [← h]; simp
      unfold Go.Sort.putRowK
      have hF : (Go.Sort.flatK encP 2 r.toArray).size = l0.length * 2 := by simp [hlen]
      have hg : w.grownBy (Go.Sort.putRow id (Go.Sort.ahead w n) g 0 (Go.Sort.flatK encP 2 r.toArray)) (some g) := grownBy_row _
      have hok : P0_ g := h0 g (by simp [Value.ownBlock])
      refine ⟨rfl, ?_, ?_, ?_⟩
      · refine ⟨fun k hk => Or.inl (h0 k hk), (Go.Sort.flatK encP 2 r.toArray).toList, ?_, reps_flatP r⟩
        refine ⟨by rw [hk2, Array.length_toList, hF, hlen], .inr ⟨g, cap, _, by rw [hlen], hbase, heap_row _ hh, by omega, hcap, by rw [hk2]; simp [Go.Sort.putCells, hsz], ?_⟩⟩
        have := take_row cur (Go.Sort.flatK encP 2 r.toArray) (by rw [hF, hsz]; omega)
        rw [hk2, hlen]
        rw [hF] at this
        exact this
      · exact hB.grown hg hB.size (fun k hk => by injection hk with hk; omega)
      · exact Kept.of_grown hg (Kept.refl w _) (fun k hk => by injection hk with hk; subst hk; exact Or.inl hok)
  · rw [if_neg hl] at h
    exact absurd h (by simp)

/-! ### wind_Reverse: function 33 -/
def wind_Reverse.f (l0 : List (S24)) : Option ((List (S24)) × Int) := (wind_valid.f l0).bind fun t369 => (if t369 = true then ((api_Point_64.f l0).bind fun t370 => ((api_Point_65.f t370).bind fun t373 => (some (t373, 0)))) else (some (([] : List (S24)), 2)))
set_option maxHeartbeats 8000000 in
set_option maxRecDepth 100000 in
theorem wind_Reverse.calls (A0 : Option Addr) (c0 : Nat) (l0 : List (S24)) (r1 : List (S24)) (r2 : Int) (w : World) (hr0 : Kd.C k24 w A0 l0.length l0) (hc0 : l0.length ≤ c0) (h : wind_Reverse.f l0 = some (r1, r2)) :
    Calls Try.prog 33 #[.slice A0 l0.length c0] w fun e w' => ∃ v0_ : Value, e = .returned (.tuple #[v0_, .int .i64 r2]) ∧ Kd.R k24 24 w' w.heap.size (fun _ => True) v0_ r1 ∧ Below w.heap.size w w' := by
  have HR0 := Aside0.mk hr0
  have HC0 := Aside0.mk hc0
  clear hr0 hc0
  have HB := Aside0.mk (Below.refl w.heap.size w)
  have H : ((wind_valid.f l0).bind fun t369 => (if t369 = true then ((api_Point_64.f l0).bind fun t370 => ((api_Point_65.f t370).bind fun t373 => (some (t373, 0)))) else (some (([] : List (S24)), 2)))) = some (r1, r2) := h
  clear h
  replace H := Option.bind_eq_some_iff.mp H
  obtain ⟨t369, A20, H⟩ := H
  replace H : (if t369 = true then ((api_Point_64.f l0).bind fun t370 => ((api_Point_65.f t370).bind fun t373 => (some (t373, 0)))) else (some (([] : List (S24)), 2))) = some (r1, r2) := H
  have A2 := Aside0.mk A20
  clear A20
  by_cases c3 : t369 = true
  · subst c3
    have H1 : ((api_Point_64.f l0).bind fun t370 => ((api_Point_65.f t370).bind fun t373 => (some (t373, 0)))) = some (r1, r2) := by rw [if_pos rfl] at H; exact H
    clear H
    have H := H1
    clear H1
    replace H := Option.bind_eq_some_iff.mp H
    obtain ⟨t370, A40, H⟩ := H
    replace H : ((api_Point_65.f t370).bind fun t373 => (some (t373, 0))) = some (r1, r2) := H
    have A4 := Aside0.mk A40
    clear A40
    replace H := Option.bind_eq_some_iff.mp H
    obtain ⟨t373, A50, H⟩ := H
    replace H : (some (t373, 0)) = some (r1, r2) := H
    have A5 := Aside0.mk A50
    clear A50
    simp only [Option.some.injEq, Prod.mk.injEq] at H
    obtain ⟨rfl, rfl⟩ := H
    go_enter Try.func33, Try.ntmps33
    go_wp2_with (first | ((with_reducible refine gate_callee (f := 51) rfl ?_); refine goesL_ (some 6) rfl rfl Try.func51 (by kernel_rfl) rfl #[.slice A0 l0.length c0] rfl (by (try simp only [List.map_toArray, List.map_cons, List.map_nil]); first | done | rfl | (simp only [List.length_drop, List.length_take]; rfl)) ?_; (with_reducible refine (wind_valid.calls _ _ l0 true _ ?side1 ?side2 A2.out).mono ?_); (case side1 => repeat (first | exact HR0.out | (with_reducible refine Kd.C_alloc ?_ _) | (with_reducible refine Kd.C_drewN ?_ _) | (with_reducible refine Kd.C_drew ?_))); (case side2 => exact HC0.out); rintro e w6 ⟨rfl, hb⟩; refine ⟨_, rfl, ?_⟩; have n0_ := Aside0.mk (below_step (by repeat (first | (with_reducible first | exact HB.out | apply below_alloc | apply pw_below_drewN | apply below_drew1) | exact HB.out)) hb); clear HB; have HB := n0_; clear n0_; (try clear hb); (try clear hb2); (try clear hk); (try clear hi)) | ((with_reducible refine gate_callee (f := 64) rfl ?_); refine goesL_ (some 9) rfl rfl Try.func64 (by kernel_rfl) rfl #[.slice A0 l0.length c0] rfl (by (try simp only [List.map_toArray, List.map_cons, List.map_nil]); first | done | rfl | (simp only [List.length_drop, List.length_take]; rfl)) ?_; (with_reducible refine (api_Point_64.calls _ _ l0 t370 _ ?side1 ?side2 A4.out).mono ?_); (case side1 => repeat (first | exact (Kd.C_below HR0.out HB.out) | (with_reducible refine Kd.C_alloc ?_ _) | (with_reducible refine Kd.C_drewN ?_ _) | (with_reducible refine Kd.C_drew ?_))); (case side2 => exact HC0.out); rintro e w7 ⟨v371, rfl, ho0, hb⟩; refine ⟨_, rfl, ?_⟩; have n0_ := Aside0.mk (Kd.R_lower ho0 (below_size (by repeat (first | (with_reducible first | exact HB.out | apply below_alloc | apply pw_below_drewN | apply below_drew1) | exact HB.out)))); have n1_ := Aside0.mk (below_step (by repeat (first | (with_reducible first | exact HB.out | apply below_alloc | apply pw_below_drewN | apply below_drew1) | exact HB.out)) hb); clear HB; have HO372 := n0_; have HB := n1_; clear n0_ n1_; (try clear hb); (try clear hb2); (try clear hk); (try clear hi); (try clear ho0); obtain ⟨Ao8, co8, eo8⟩ := Kd.R_slice HO372.out; subst eo8) | ((with_reducible refine gate_callee (f := 65) rfl ?_); refine goesL_ (some 11) rfl rfl Try.func65 (by kernel_rfl) rfl #[.slice Ao8 t370.length co8] rfl (by (try simp only [List.map_toArray, List.map_cons, List.map_nil]); first | done | rfl | (simp only [List.length_drop, List.length_take]; rfl)) ?_; (with_reducible refine (api_Point_65.calls (fun k_ => some k_ = (.slice Ao8 t370.length co8 : Value).ownBlock) (.slice Ao8 t370.length co8) t370 t373 w _ ?side1 ?side2 A5.out).mono ?_); (case side1 => repeat (first | (with_reducible first | exact HB.out | apply below_alloc | apply pw_below_drewN | apply below_drew1) | exact HB.out)); (case side2 => exact Kd.R_tight rfl HO372.out); rintro e w9 ⟨rfl, hy0, hb, hkp⟩; refine ⟨_, rfl, ?_⟩; have n0_ := Aside0.mk (Kd.R_reok rfl hy0 (fun k_ e_ => HO372.out.1 k_ e_)); have n1_ := Aside0.mk (hb); clear HO372; clear HB; have HO372 := n0_; have HB := n1_; clear n0_ n1_; (try clear hb); (try clear hkp); (try clear hy0)))
    go_ret2
    exact ⟨_, by first | rfl | (simp [errW_none, errW_some] <;> rfl) | (simp [*, errW_none, errW_some] <;> rfl), by (with_reducible repeat (first | apply Kd.R_alloc | apply Kd.R_drewN | apply Kd.R_drew)); exact HO372.out, by repeat (first | (with_reducible first | exact HB.out | apply below_alloc | apply pw_below_drewN | apply below_drew1) | exact HB.out)⟩
  · replace c3 := Bool.eq_false_iff.mpr c3
    subst c3
    have H1 : (some (([] : List (S24)), 2)) = some (r1, r2) := by rw [if_neg (show ¬ (false = true) by decide)] at H; exact H
    clear H
    have H := H1
    clear H1
    simp only [Option.some.injEq, Prod.mk.injEq] at H
    obtain ⟨rfl, rfl⟩ := H
    go_enter Try.func33, Try.ntmps33
    go_wp2_with (first | ((with_reducible refine gate_callee (f := 51) rfl ?_); refine goesL_ (some 6) rfl rfl Try.func51 (by kernel_rfl) rfl #[.slice A0 l0.length c0] rfl (by (try simp only [List.map_toArray, List.map_cons, List.map_nil]); first | done | rfl | (simp only [List.length_drop, List.length_take]; rfl)) ?_; (with_reducible refine (wind_valid.calls _ _ l0 false _ ?side1 ?side2 A2.out).mono ?_); (case side1 => repeat (first | exact HR0.out | (with_reducible refine Kd.C_alloc ?_ _) | (with_reducible refine Kd.C_drewN ?_ _) | (with_reducible refine Kd.C_drew ?_))); (case side2 => exact HC0.out); rintro e w10 ⟨rfl, hb⟩; refine ⟨_, rfl, ?_⟩; have n0_ := Aside0.mk (below_step (by repeat (first | (with_reducible first | exact HB.out | apply below_alloc | apply pw_below_drewN | apply below_drew1) | exact HB.out)) hb); clear HB; have HB := n0_; clear n0_; (try clear hb); (try clear hb2); (try clear hk); (try clear hi)))
    go_ret2
    exact ⟨_, by first | rfl | (simp [errW_none, errW_some] <;> rfl) | (simp [*, errW_none, errW_some] <;> rfl), by first | exact Kd.R_nil _ _ _ _ _ | exact Kd.N_nil _ _ _ _ _ | exact Kd.V_nil _ _ _ _ _ | exact Kd.Q_nil _ _ _ _ _ | exact Kd.S_nil _ _ _ _ _, by repeat (first | (with_reducible first | exact HB.out | apply below_alloc | apply pw_below_drewN | apply below_drew1) | exact HB.out)⟩

/-! ### wind_Shift: function 35 -/
mutual
def wind_Shift.j0 : Nat → List (S24) → Bool → Int → Int → Option ((List (S24)) × Int)
  | 0, _, _, _, _ => none
  | k + 1, x0, x15, x380000, x380001 => if x15 = true then (some (([] : List (S24)), 2)) else ((api_Point_64.f x0).bind fun t382 => (wind_Shift.l0 k t382 (t382.length : Int) 0 x380000 x380001))
def wind_Shift.l0 : Nat → List (S24) → Int → Int → Int → Int → Option ((List (S24)) × Int)
  | 0, _, _, _, _, _ => none
  | k + 1, x6, x19, x20, x380000, x380001 => if x20 < x19 then (if 0 ≤ x20 then (if x20 < (x6.length : Int) then ((some (x6.set (x20 : Int).toNat (⟨wrap64 (((rd_T24 x6 x20).f0) + x380000), (rd_T24 x6 x20).f1⟩ : S24) : List (S24))).bind fun y386 => (wind_Shift.l0 k (y386.set (x20 : Int).toNat (⟨(rd_T24 y386 x20).f0, wrap64 (((rd_T24 y386 x20).f1) + x380001)⟩ : S24)) x19 (wrap64 (x20 + 1)) x380000 x380001)) else (none)) else (none)) else ((flat_ArePoints.f x6).bind fun t389 => (if t389 = true then (some (x6, 0)) else (some (([] : List (S24)), 17))))
end
def wind_Shift.f (k : Nat) (l0 : List (S24)) (a1_0 : Int) (a1_1 : Int) : Option ((List (S24)) × Int) := (wind_valid.f l0).bind fun t380 => (if t380 = true then ((flat_IsPoint.f a1_0 a1_1).bind fun t381 => (wind_Shift.j0 k l0 (!t381) a1_0 a1_1)) else (wind_Shift.j0 k l0 true a1_0 a1_1))
theorem wind_Shift.mono_l : ∀ k, (∀ y0 y1 y2 y3, LeO (wind_Shift.j0 k y0 y1 y2 y3) (wind_Shift.j0 (k + 1) y0 y1 y2 y3)) ∧ (∀ y0 y1 y2 y3 y4, LeO (wind_Shift.l0 k y0 y1 y2 y3 y4) (wind_Shift.l0 (k + 1) y0 y1 y2 y3 y4))
  | 0 => ⟨fun _ _ _ _ r h => by simp [wind_Shift.j0] at h, fun _ _ _ _ _ r h => by simp [wind_Shift.l0] at h⟩
  | k + 1 => by
    obtain ⟨ih0, ih1⟩ := wind_Shift.mono_l k
    refine ⟨?_, ?_⟩
    · intro y0 y1 y2 y3
      unfold wind_Shift.j0
      repeat' first
      | (with_reducible exact ih0 _ _ _ _)
      | (with_reducible exact ih1 _ _ _ _ _)
      | (with_reducible exact LeO.refl _)
      | (with_reducible exact LeO.none _)
      | (with_reducible refine LeO.ite ?_ ?_)
      | (with_reducible refine LeO.bind ?_ (fun _ => ?_))
      | exact ih0 _ _ _ _
      | exact ih1 _ _ _ _ _
      | exact LeO.none _
      | refine LeO.ite ?_ ?_
      | refine LeO.bind ?_ (fun _ => ?_)
    · intro y0 y1 y2 y3 y4
      unfold wind_Shift.l0
      repeat' first
      | (with_reducible exact ih0 _ _ _ _)
      | (with_reducible exact ih1 _ _ _ _ _)
      | (with_reducible exact LeO.refl _)
      | (with_reducible exact LeO.none _)
      | (with_reducible refine LeO.ite ?_ ?_)
      | (with_reducible refine LeO.bind ?_ (fun _ => ?_))
      | exact ih0 _ _ _ _
      | exact ih1 _ _ _ _ _
      | exact LeO.none _
      | refine LeO.ite ?_ ?_
      | refine LeO.bind ?_ (fun _ => ?_)
theorem wind_Shift.mono : ∀ a0 a1 a2 k, LeO (wind_Shift.f k a0 a1 a2) (wind_Shift.f (k + 1) a0 a1 a2) := by
  intro a0 a1 a2 k
  obtain ⟨ih0, ih1⟩ := wind_Shift.mono_l k
  unfold wind_Shift.f
  repeat' first
      | (with_reducible exact ih0 _ _ _ _)
      | (with_reducible exact ih1 _ _ _ _ _)
      | (with_reducible exact LeO.refl _)
      | (with_reducible exact LeO.none _)
      | (with_reducible refine LeO.ite ?_ ?_)
      | (with_reducible refine LeO.bind ?_ (fun _ => ?_))
      | exact ih0 _ _ _ _
      | exact ih1 _ _ _ _ _
      | exact LeO.none _
      | refine LeO.ite ?_ ?_
      | refine LeO.bind ?_ (fun _ => ?_)
def wind_Shift.T7 : Bool × List (List Nat × List Nat) := (true, [([], []), ([], []), ([0, 1], [0, 1]), ([2], [2]), ([3], [3]), ([], []), ([5], [5]), ([4, 6], [4, 6]), ([0, 1, 0, 1, 2, 3, 4, 5, 6, 7], [0, 1]), ([8, 0, 1, 2, 3, 4, 5, 6, 7], [8]), ([9, 7, 0, 1, 2, 3, 4, 5, 6, 7], [7, 9])])
def wind_Shift.B7 : List Nat := [0, 0, 3, 7, 15, 0, 32, 127, 255, 511, 1023]
theorem wind_Shift.tab7 : rtab .any (opsOf Try.f35 7) = wind_Shift.T7 := by kernel_rfl
theorem wind_Shift.bits7 : waitsOk wind_Shift.T7.2 wind_Shift.B7 = true := by kernel_rfl
def wind_Shift.T8 : Bool × List (List Nat × List Nat) := (true, [([], []), ([], []), ([0, 1], [0, 1]), ([2], [2]), ([3], [3]), ([], []), ([5], [5]), ([4, 6], [4, 6]), ([0, 1, 0, 1, 2, 3, 4, 5, 6, 7], [0, 1]), ([8, 0, 1, 2, 3, 4, 5, 6, 7], [8]), ([9, 7, 0, 1, 2, 3, 4, 5, 6, 7], [7, 9])])
def wind_Shift.B8 : List Nat := [0, 0, 3, 7, 15, 0, 32, 127, 255, 511, 1023]
theorem wind_Shift.tab8 : rtab .any (opsOf Try.f35 8) = wind_Shift.T8 := by kernel_rfl
theorem wind_Shift.bits8 : waitsOk wind_Shift.T8.2 wind_Shift.B8 = true := by kernel_rfl
set_option maxHeartbeats 8000000 in
set_option maxRecDepth 100000 in
theorem wind_Shift.calls (k : Nat) (A0 : Option Addr) (c0 : Nat) (l0 : List (S24)) (a1_0 : Int) (a1_1 : Int) (r1 : List (S24)) (r2 : Int) (w : World) (hr0 : Kd.C k24 w A0 l0.length l0) (hc0 : l0.length ≤ c0) (h : wind_Shift.f k l0 a1_0 a1_1 = some (r1, r2)) :
    Calls Try.prog 35 #[.slice A0 l0.length c0, .agg #[.int .i64 a1_0, .int .i64 a1_1]] w fun e w' => ∃ v0_ : Value, e = .returned (.tuple #[v0_, .int .i64 r2]) ∧ Kd.R k24 24 w' w.heap.size (fun _ => True) v0_ r1 ∧ Below w.heap.size w w' := by
  have hu24 := Try.underlying24
  have HR0 := Aside0.mk hr0
  have HC0 := Aside0.mk hc0
  clear hr0 hc0
  have HB := Aside0.mk (Below.refl w.heap.size w)
  have H : ((wind_valid.f l0).bind fun t380 => (if t380 = true then ((flat_IsPoint.f a1_0 a1_1).bind fun t381 => (wind_Shift.j0 k l0 (!t381) a1_0 a1_1)) else (wind_Shift.j0 k l0 true a1_0 a1_1))) = some (r1, r2) := h
  clear h
  have HC3 := Aside0.mk H
  clear H
  go_enter Try.func35, Try.ntmps35
  go_upto_region 1 with (first | ((with_reducible refine gate_dst (N := 3) rfl ?_); refine box_event ?hg (N := 3) ?hd (cs := #[.int .i64 a1_0, .int .i64 a1_1]) (t := 24) ?hr ?_; (case hd => rfl); (case hg => rfl); (case hr => first | (go_simp; done) | (go_simp; rfl)); intro gb379 hg w4 hbox hb; have n0_ := Aside0.mk (below_step (by repeat (first | (with_reducible first | exact HB.out | apply below_alloc | apply pw_below_drewN | apply below_drew1) | exact HB.out)) hb); have n1_ := Aside0.mk (hbox); have n2_ := Aside0.mk ((by rw [hg]; exact (below_size (by repeat (first | (with_reducible first | exact HB.out | apply below_alloc | apply pw_below_drewN | apply below_drew1) | exact HB.out))) : w.heap.size ≤ gb379)); have n3_ := Aside0.mk ((by rw [hg]; exact (below_size (by repeat (first | (with_reducible first | exact HB.out | apply below_alloc | apply pw_below_drewN | apply below_drew1) | exact HB.out))) : w.heap.size ≤ gb379)); clear HB; have HB := n0_; have BK379 := n1_; have GW379 := n2_; have GE379 := n3_; clear n0_ n1_ n2_ n3_; clear hb hbox hg))
  (try simp only [Act.put, List.setIfInBounds_toArray, List.set_cons_zero, List.set_cons_succ])
  go_cut [15] (fun v15 wc => ∃ (kq : Nat) (x15_2 : Bool), v15 = .bool x15_2 ∧ Aside0 (wind_Shift.j0 kq l0 x15_2 a1_0 a1_1 = some (r1, r2)) ∧ Aside0 (kq ≤ k) ∧ Aside0 (wc.heap[gb379]? = some (.cells #[.int .i64 a1_0, .int .i64 a1_1] 24 (0, 0))) ∧ Aside0 (Below w.heap.size w wc))
  case first =>
    have H := HC3.out
    clear HC3
    replace H := Option.bind_eq_some_iff.mp H
    obtain ⟨t380, A50, H⟩ := H
    replace H : (if t380 = true then ((flat_IsPoint.f a1_0 a1_1).bind fun t381 => (wind_Shift.j0 k l0 (!t381) a1_0 a1_1)) else (wind_Shift.j0 k l0 true a1_0 a1_1)) = some (r1, r2) := H
    have A5 := Aside0.mk A50
    clear A50
    by_cases c6 : t380 = true
    · subst c6
      have H1 : ((flat_IsPoint.f a1_0 a1_1).bind fun t381 => (wind_Shift.j0 k l0 (!t381) a1_0 a1_1)) = some (r1, r2) := by rw [if_pos rfl] at H; exact H
      clear H
      have H := H1
      clear H1
      replace H := Option.bind_eq_some_iff.mp H
      obtain ⟨t381, A70, H⟩ := H
      replace H : (wind_Shift.j0 k l0 (!t381) a1_0 a1_1) = some (r1, r2) := H
      have A7 := Aside0.mk A70
      clear A70
      have H' := Aside0.mk H
      clear H
      go_wp2_with (first | ((with_reducible refine gate_callee (f := 51) rfl ?_); refine goesL_ (some 9) rfl rfl Try.func51 (by kernel_rfl) rfl #[.slice A0 l0.length c0] rfl (by (try simp only [List.map_toArray, List.map_cons, List.map_nil]); first | done | rfl | (simp only [List.length_drop, List.length_take]; rfl)) ?_; (with_reducible refine (wind_valid.calls _ _ l0 true _ ?side1 ?side2 A5.out).mono ?_); (case side1 => repeat (first | exact (Kd.C_below HR0.out HB.out) | (with_reducible refine Kd.C_alloc ?_ _) | (with_reducible refine Kd.C_drewN ?_ _) | (with_reducible refine Kd.C_drew ?_))); (case side2 => exact HC0.out); rintro e w8 ⟨rfl, hb⟩; refine ⟨_, rfl, ?_⟩; have n0_ := Aside0.mk (blk_below (g := gb379) (o := .cells #[.int .i64 a1_0, .int .i64 a1_1] 24 (0, 0)) (by (with_reducible repeat (first | refine blk_drewN ?_ _ | refine blk_drew ?_ | refine blk_alloc ?_ _)); exact BK379.out) hb); have n1_ := Aside0.mk (below_step (by repeat (first | (with_reducible first | exact HB.out | apply below_alloc | apply pw_below_drewN | apply below_drew1 | refine below_set ?_ GE379.out) | exact HB.out)) hb); clear BK379; clear HB; have BK379 := n0_; have HB := n1_; clear n0_ n1_; (try clear hb); (try clear hb2); (try clear hk); (try clear hi); have hcz9_0 : w8.cell? ⟨gb379, 0, none⟩ = some (.int .i64 a1_0) := (blk_cell BK379.out 0).trans rfl; have hcz9_1 : w8.cell? ⟨gb379, 1, none⟩ = some (.int .i64 a1_1) := (blk_cell BK379.out 1).trans rfl; have hfz9_0 := blk_frozen BK379.out 0; have hfz9_1 := blk_frozen BK379.out 1) | (go_at_call 42; (with_reducible refine (flat_IsPoint.calls a1_0 a1_1 t381 _ A7.out).mono ?_); rintro e w10 ⟨rfl, hb⟩; have n0_ := Aside0.mk (blk_below (g := gb379) (o := .cells #[.int .i64 a1_0, .int .i64 a1_1] 24 (0, 0)) (by (with_reducible repeat (first | refine blk_drewN ?_ _ | refine blk_drew ?_ | refine blk_alloc ?_ _)); exact BK379.out) hb); have n1_ := Aside0.mk (below_step (by repeat (first | (with_reducible first | exact HB.out | apply below_alloc | apply pw_below_drewN | apply below_drew1 | refine below_set ?_ GE379.out) | exact HB.out)) hb); clear BK379; clear HB; have BK379 := n0_; have HB := n1_; clear n0_ n1_; (try clear hb); (try clear hb2); (try clear hk); (try clear hi)))
      go_meet
      case rel => exact ⟨_, (!t381), (by first | rfl | (simp; done) | (simp [*]; done)), H', ⟨by first | omega | exact Nat.le_refl _⟩, ⟨by (with_reducible repeat (first | refine blk_drewN ?_ _ | refine blk_drew ?_ | refine blk_alloc ?_ _)); exact BK379.out⟩, ⟨by repeat (first | (with_reducible first | exact HB.out | apply below_alloc | apply pw_below_drewN | apply below_drew1 | refine below_set ?_ GE379.out) | exact HB.out)⟩⟩
    · replace c6 := Bool.eq_false_iff.mpr c6
      subst c6
      have H1 : (wind_Shift.j0 k l0 true a1_0 a1_1) = some (r1, r2) := by rw [if_neg (show ¬ (false = true) by decide)] at H; exact H
      clear H
      have H := H1
      clear H1
      have H' := Aside0.mk H
      clear H
      go_wp2_with (first | ((with_reducible refine gate_callee (f := 51) rfl ?_); refine goesL_ (some 9) rfl rfl Try.func51 (by kernel_rfl) rfl #[.slice A0 l0.length c0] rfl (by (try simp only [List.map_toArray, List.map_cons, List.map_nil]); first | done | rfl | (simp only [List.length_drop, List.length_take]; rfl)) ?_; (with_reducible refine (wind_valid.calls _ _ l0 false _ ?side1 ?side2 A5.out).mono ?_); (case side1 => repeat (first | exact (Kd.C_below HR0.out HB.out) | (with_reducible refine Kd.C_alloc ?_ _) | (with_reducible refine Kd.C_drewN ?_ _) | (with_reducible refine Kd.C_drew ?_))); (case side2 => exact HC0.out); rintro e w11 ⟨rfl, hb⟩; refine ⟨_, rfl, ?_⟩; have n0_ := Aside0.mk (blk_below (g := gb379) (o := .cells #[.int .i64 a1_0, .int .i64 a1_1] 24 (0, 0)) (by (with_reducible repeat (first | refine blk_drewN ?_ _ | refine blk_drew ?_ | refine blk_alloc ?_ _)); exact BK379.out) hb); have n1_ := Aside0.mk (below_step (by repeat (first | (with_reducible first | exact HB.out | apply below_alloc | apply pw_below_drewN | apply below_drew1 | refine below_set ?_ GE379.out) | exact HB.out)) hb); clear BK379; clear HB; have BK379 := n0_; have HB := n1_; clear n0_ n1_; (try clear hb); (try clear hb2); (try clear hk); (try clear hi)))
      go_meet
      case rel => exact ⟨_, (true), (by first | rfl | (simp; done) | (simp [*]; done)), H', ⟨by first | omega | exact Nat.le_refl _⟩, ⟨by (with_reducible repeat (first | refine blk_drewN ?_ _ | refine blk_drew ?_ | refine blk_alloc ?_ _)); exact BK379.out⟩, ⟨by repeat (first | (with_reducible first | exact HB.out | apply below_alloc | apply pw_below_drewN | apply below_drew1 | refine below_set ?_ GE379.out) | exact HB.out)⟩⟩
  case rest =>
    clear HC3
    try clear p2
    try clear c3
    try clear c5
    try clear c6
    try clear hcz9_0
    try clear hcz9_1
    try clear hfz9_0
    try clear hfz9_1
    obtain ⟨kq, x15_2, rfl, HA, HJ2, BK379, HB⟩ := hcut
    cases kq with
    | zero => exact absurd HA.out (by simp [wind_Shift.j0])
    | succ kj2 =>
      have H := HA.out
      clear HA
      simp only [wind_Shift.j0] at H
      by_cases c12 : x15_2 = true
      · subst c12
        have H1 : (some (([] : List (S24)), 2)) = some (r1, r2) := by rw [if_pos rfl] at H; exact H
        clear H
        have H := H1
        clear H1
        simp only [Option.some.injEq, Prod.mk.injEq] at H
        obtain ⟨rfl, rfl⟩ := H
        go_wp2
        go_ret2
        exact ⟨_, by first | rfl | (simp [errW_none, errW_some] <;> rfl) | (simp [*, errW_none, errW_some] <;> rfl), by first | exact Kd.R_nil _ _ _ _ _ | exact Kd.N_nil _ _ _ _ _ | exact Kd.V_nil _ _ _ _ _ | exact Kd.Q_nil _ _ _ _ _ | exact Kd.S_nil _ _ _ _ _, by repeat (first | (with_reducible first | exact HB.out | apply below_alloc | apply pw_below_drewN | apply below_drew1 | refine below_set ?_ GE379.out) | exact HB.out)⟩
      · replace c12 := Bool.eq_false_iff.mpr c12
        subst c12
        have H1 : ((api_Point_64.f l0).bind fun t382 => (wind_Shift.l0 kj2 t382 (t382.length : Int) 0 a1_0 a1_1)) = some (r1, r2) := by rw [if_neg (show ¬ (false = true) by decide)] at H; exact H
        clear H
        have H := H1
        clear H1
        replace H := Option.bind_eq_some_iff.mp H
        obtain ⟨t382, A130, H⟩ := H
        replace H : (wind_Shift.l0 kj2 t382 (t382.length : Int) 0 a1_0 a1_1) = some (r1, r2) := H
        have A13 := Aside0.mk A130
        clear A130
        have H' := Aside0.mk H
        clear H
        go_wp2_with (first | ((with_reducible refine gate_callee (f := 64) rfl ?_); refine goesL_ (some 17) rfl rfl Try.func64 (by kernel_rfl) rfl #[.slice A0 l0.length c0] rfl (by (try simp only [List.map_toArray, List.map_cons, List.map_nil]); first | done | rfl | (simp only [List.length_drop, List.length_take]; rfl)) ?_; (with_reducible refine (api_Point_64.calls _ _ l0 t382 _ ?side1 ?side2 A13.out).mono ?_); (case side1 => repeat (first | exact (Kd.C_below HR0.out HB.out) | (with_reducible refine Kd.C_alloc ?_ _) | (with_reducible refine Kd.C_drewN ?_ _) | (with_reducible refine Kd.C_drew ?_))); (case side2 => exact HC0.out); rintro e w14 ⟨v383, rfl, ho0, hb⟩; refine ⟨_, rfl, ?_⟩; have n0_ := Aside0.mk (Kd.R_lower (Kd.R_newB ho0 (g := gb379) (o := .cells #[.int .i64 a1_0, .int .i64 a1_1] 24 (0, 0)) (by (with_reducible repeat (first | refine blk_drewN ?_ _ | refine blk_drew ?_ | refine blk_alloc ?_ _)); exact BK379.out)) (below_size (by repeat (first | (with_reducible first | exact HB.out | apply below_alloc | apply pw_below_drewN | apply below_drew1 | refine below_set ?_ GE379.out) | exact HB.out)))); have n1_ := Aside0.mk (blk_below (g := gb379) (o := .cells #[.int .i64 a1_0, .int .i64 a1_1] 24 (0, 0)) (by (with_reducible repeat (first | refine blk_drewN ?_ _ | refine blk_drew ?_ | refine blk_alloc ?_ _)); exact BK379.out) hb); have n2_ := Aside0.mk (below_step (by repeat (first | (with_reducible first | exact HB.out | apply below_alloc | apply pw_below_drewN | apply below_drew1 | refine below_set ?_ GE379.out) | exact HB.out)) hb); clear BK379; clear HB; have HO384 := n0_; have BK379 := n1_; have HB := n2_; clear n0_ n1_ n2_; (try clear hb); (try clear hb2); (try clear hk); (try clear hi); (try clear ho0); obtain ⟨Ao15, co15, eo15⟩ := Kd.R_slice HO384.out; subst eo15))
        go_loopg [20] kj2 (fun kq v20 w' => ∃ (x6_2 : List (S24)) (x20_2 : Int) (x380000_2 : Int) (x380001_2 : Int), v20 = .int .i64 x20_2 ∧ Aside0 (wind_Shift.l0 kq x6_2 (t382.length : Int) x20_2 x380000_2 x380001_2 = some (r1, r2)) ∧ Aside0 (kq ≤ kj2) ∧ Aside0 (Kd.R k24 24 w' w.heap.size (fun k_ => k_ ≠ gb379) (.slice Ao15 t382.length co15) x6_2) ∧ Aside0 (w'.heap[gb379]? = some (.cells #[.int .i64 x380000_2, .int .i64 x380001_2] 24 (0, 0))) ∧ Aside0 (Below w.heap.size w w'))
        case atStart => exact ⟨(t382), (0), (a1_0), (a1_1), (by first | rfl | (simp; done) | (simp [*]; done)), H', ⟨Nat.le_refl _⟩, ⟨by (with_reducible repeat (first | apply Kd.R_alloc | apply Kd.R_drewN | apply Kd.R_drew)); exact Kd.R_mono HO384.out (fun _ hk => hk.2)⟩, ⟨by (with_reducible repeat (first | refine blk_drewN ?_ _ | refine blk_drew ?_ | refine blk_alloc ?_ _)); exact BK379.out⟩, ⟨by repeat (first | (with_reducible first | exact HB.out | apply below_alloc | apply pw_below_drewN | apply below_drew1 | refine below_set ?_ GE379.out) | exact HB.out)⟩⟩
        case round =>
          clear H'
          try clear c1
          try clear p2
          try clear c3
          try clear c5
          try clear c6
          try clear c12
          try clear hcz9_0
          try clear hcz9_1
          try clear hfz9_0
          try clear hfz9_1
          try clear p2
          obtain ⟨x6_2, x20_2, x380000_2, x380001_2, rfl, HA, HK2, HO_6, BK379, HB⟩ := hrel
          have hl6_2 := (Kd.R_reads' HO_6.out).1
          rw [hl6_2] at HO_6
          (try simp only [hl6_2])
          (try simp only [hl6_2] at BK379)
          cases gk with
          | zero => exact absurd HA.out (by simp [wind_Shift.l0])
          | succ k2 =>
            have H := HA.out
            clear HA
            simp only [wind_Shift.l0] at H
            by_cases c16 : x20_2 < (t382.length : Int)
            · rw [if_pos c16] at H
              have c16b0 : decide (x20_2 < (t382.length : Int)) = true := decide_eq_true c16
              clear c16
              by_cases c17 : 0 ≤ x20_2
              · rw [if_pos c17] at H
                have c17b0 : decide (0 ≤ x20_2) = true := decide_eq_true c17
                clear c17
                by_cases c18 : x20_2 < (x6_2.length : Int)
                · rw [if_pos c18] at H
                  have c18b0 : decide (x20_2 < (x6_2.length : Int)) = true := decide_eq_true c18
                  clear c18
                  obtain ⟨y386, hy386⟩ : ∃ y_ : List (S24), y_ = (x6_2.set (x20_2 : Int).toNat (⟨wrap64 (((rd_T24 x6_2 x20_2).f0) + x380000_2), (rd_T24 x6_2 x20_2).f1⟩ : S24)) := ⟨_, rfl⟩
                  replace H : (wind_Shift.l0 k2 (y386.set (x20_2 : Int).toNat (⟨(rd_T24 y386 x20_2).f0, wrap64 (((rd_T24 y386 x20_2).f1) + x380001_2)⟩ : S24)) (t382.length : Int) (wrap64 (x20_2 + 1)) x380000_2 x380001_2) = some (r1, r2) := by first | (rw [hy386]; with_reducible exact H) | (have H2_ := (Option.bind_some _ _).symm.trans H; rw [hy386]; with_reducible exact H2_) | (have H2_ := (Option.bind_some _ _).symm.trans H; with_reducible exact H2_) | with_reducible exact H | (rw [hy386]; exact H) | exact H
                  have Ny386 := Aside0.mk hy386
                  clear hy386
                  obtain ⟨y388, hy388⟩ : ∃ y_ : List (S24), y_ = (y386.set (x20_2 : Int).toNat (⟨(rd_T24 y386 x20_2).f0, wrap64 (((rd_T24 y386 x20_2).f1) + x380001_2)⟩ : S24)) := ⟨_, rfl⟩
                  replace H : (wind_Shift.l0 k2 y388 (t382.length : Int) (wrap64 (x20_2 + 1)) x380000_2 x380001_2) = some (r1, r2) := by first | (rw [hy388]; with_reducible exact H) | (have H2_ := (Option.bind_some _ _).symm.trans H; rw [hy388]; with_reducible exact H2_) | (have H2_ := (Option.bind_some _ _).symm.trans H; with_reducible exact H2_) | with_reducible exact H | (rw [hy388]; exact H) | exact H
                  have Ny388 := Aside0.mk hy388
                  clear hy388
                  have H' := Aside0.mk H
                  clear H
                  try go_wp2
                  have n0_ := Aside0.mk (Kd.R_drew HO_6.out)
                  have n1_ := Aside0.mk (blk_drew BK379.out)
                  have n2_ := Aside0.mk (below_drew1 HB.out)
                  clear HO_6
                  clear BK379
                  clear HB
                  have HO_6 := n0_
                  have BK379 := n1_
                  have HB := n2_
                  clear n0_ n1_ n2_
                  have p385 : 0 ≤ (x20_2 : Int) := of_decide_eq_true (by first | (with_reducible assumption) | assumption)
                  have q385 : x20_2 < (x6_2.length : Int) := of_decide_eq_true (by first | (with_reducible assumption) | assumption)
                  obtain ⟨ad385, e385, hx385_0, hx385_1⟩ := at_T24 (Kd.R_reads' HO_6.out).2.2 x20_2 p385 q385
                  cases e385
                  replace p385 := eq_true p385
                  replace q385 := eq_true q385
                  have p19 : 0 ≤ (x20_2 : Int) := of_decide_eq_true (by first | (with_reducible assumption) | assumption)
                  have q19 : (x20_2 : Int) < ((x6_2.length : Int) : Int) := of_decide_eq_true (by first | (with_reducible assumption) | assumption)
                  obtain ⟨go19, co19, eo19, gb19, gl19, cl19, HG19⟩ := Kd.R_form HO_6.out (by omega)
                  (first | cases eo19 | (injection eo19 with ea_ en_ ec_; (first | subst ea_ | (injection ea_ with ea_; subst ea_)); subst ec_; clear en_))
                  have GB19 := Aside0.mk gb19
                  have GG19 := Aside0.mk HG19
                  clear gb19 gl19 HG19
                  (first | simp only [add_plain] at hx385_0 | skip)
                  (first | simp only [add_plain] at hx385_1 | skip)
                  obtain ⟨ce19, hcl19, hM19, hcc19, hfr19⟩ := Kd.R_elem HO_6.out z24 (x20_2 : Int) p19 q19
                  obtain rfl := k24_openM hM19
                  have hx19_0 : World.cell? _ ⟨go19, (x20_2 : Int).toNat * 2, none⟩ = some (.int .i64 ((rd_T24 x6_2 x20_2).f0)) := hcc19 0 _ rfl
                  have hx19_1 : World.cell? _ ⟨go19, (x20_2 : Int).toNat * 2 + 1, none⟩ = some (.int .i64 ((rd_T24 x6_2 x20_2).f1)) := hcc19 1 _ rfl
                  have hf19_0 : World.frozen? _ ⟨go19, (x20_2 : Int).toNat * 2, none⟩ = false := hfr19 0
                  have hf19_1 : World.frozen? _ ⟨go19, (x20_2 : Int).toNat * 2 + 1, none⟩ = false := hfr19 1
                  clear hcl19 hcc19 hfr19 hM19
                  replace p19 := eq_true p19
                  replace q19 := eq_true q19
                  obtain ⟨ce22, hcl22, hM22, hcc22, hfr22⟩ := Kd.R_elem HO_6.out z24 (x20_2 : Int) (of_decide_eq_true (by first | (with_reducible assumption) | assumption)) (by have h_ : (x20_2 : Int) < ((x6_2.length : Int) : Int) := of_decide_eq_true (by first | (with_reducible assumption) | assumption); first | exact h_ | (have e_ := (Kd.R_reads' HO_6.out).1; omega) | simpa using h_)
                  obtain rfl := k24_openM hM22
                  have HP22 := (Kd.R_seg HO_6.out (x20_2 : Int) (of_decide_eq_true (by first | (with_reducible assumption) | assumption)) (by have h_ : (x20_2 : Int) < ((x6_2.length : Int) : Int) := of_decide_eq_true (by first | (with_reducible assumption) | assumption); first | exact h_ | (have e_ := (Kd.R_reads' HO_6.out).1; omega) | simpa using h_) (seg := [.int .i64 (wrap64 (((rd_T24 x6_2 x20_2).f0) + x380000_2))]) (j := 0) hcl22 hcc22 (show 1 ≤ 2 from by decide) (x' := (⟨wrap64 (((rd_T24 x6_2 x20_2).f0) + x380000_2), (rd_T24 x6_2 x20_2).f1⟩ : S24)) (k24_mkM _ _ _ (⟨wrap64 (((rd_T24 x6_2 x20_2).f0) + x380000_2), (rd_T24 x6_2 x20_2).f1⟩ : S24) ) (fun _ hk => hk)).1
                  rw [← Ny386.out] at HP22
                  have HQ22 := Aside0.mk HP22
                  clear hcl22 hcc22 hfr22 hM22 HP22
                  refine start_ (n := 11) (S := fun w' => w'.cell? ⟨gb379, 0, none⟩ = some (.int .i64 x380000_2) ∧ w'.cell? ⟨gb379, 1, none⟩ = some (.int .i64 x380001_2) ∧ w'.cell? ⟨go19, ((x20_2).toNat * 2), none⟩ = some (.int .i64 ((rd_T24 x6_2 x20_2).f0)) ∧ w'.cell? ⟨go19, ((x20_2).toNat * 2) + 1, none⟩ = some (.int .i64 ((rd_T24 x6_2 x20_2).f1))) (ds := [10]) #[false, false, false, false, false, false, false, false, false, false, false] (by kernel_rfl) rfl rfl ⟨(blk_cell BK379.out 0).trans rfl, (blk_cell BK379.out 1).trans rfl, hx385_0, hx385_1⟩ (fun hHeld => ?_); refine with_tabW wind_Shift.tab7 wind_Shift.bits7 (fun HT_ HW_ => ?_)
                  generalize wr.drew = w21 at HO_6 BK379 HB GG19 HQ22 hf19_0 hf19_1 hx19_0 hx19_1 hx385_0 hx385_1 hHeld ⊢
                  refine pure_ (i := 0) (N := some 23) (v := ?_) (a' := ?_) #[true, false, false, false, false, false, false, false, false, false, false] rfl rfl (any_of HT_.out (by kernel_rfl)) (fun _ _ _ h => h) (Or.inl ⟨by rfl, ?_⟩) ?_ ?_
                  rotate_left
                  · intro w'
                    go_simp
                    with_reducible rfl
                  rotate_left
                  · simp only [Act.put, List.setIfInBounds_toArray, List.set_cons_zero, List.set_cons_succ, i64_w, i32_w]
                    rfl
                  refine pure_ (i := 1) (N := some 24) (v := ?_) (a' := ?_) #[true, true, false, false, false, false, false, false, false, false, false] rfl rfl (any_of HT_.out (by kernel_rfl)) (fun _ _ _ h => h) (Or.inl ⟨by rfl, ?_⟩) ?_ ?_
                  rotate_left
                  · intro w'
                    go_simp
                    with_reducible rfl
                  rotate_left
                  · simp only [Act.put, List.setIfInBounds_toArray, List.set_cons_zero, List.set_cons_succ, i64_w, i32_w]
                    rfl
                  refine pure_ (i := 2) (N := some 25) (v := ?_) (a' := ?_) #[true, true, true, false, false, false, false, false, false, false, false] rfl rfl (any_of HT_.out (by kernel_rfl)) (fun _ _ _ h => h) (Or.inl ⟨by rfl, ?_⟩) ?_ ?_
                  rotate_left
                  · intro w'
                    go_simp
                    with_reducible rfl
                  rotate_left
                  · simp only [Act.put, List.setIfInBounds_toArray, List.set_cons_zero, List.set_cons_succ, i64_w, i32_w]
                    rfl
                  refine pure_ (i := 3) (N := some 26) (v := ?_) (a' := ?_) #[true, true, true, true, false, false, false, false, false, false, false] rfl rfl (any_of HT_.out (by kernel_rfl)) (fun _ _ _ h => h) (Or.inl ⟨by rfl, ?_⟩) ?_ ?_
                  rotate_left
                  · intro w'
                    go_simp
                    with_reducible rfl
                  rotate_left
                  · simp only [Act.put, List.setIfInBounds_toArray, List.set_cons_zero, List.set_cons_succ, i64_w, i32_w]
                    rfl
                  refine pure_ (i := 5) (N := some 28) (v := ?_) (a' := ?_) #[true, true, true, true, false, true, false, false, false, false, false] rfl rfl (any_of HT_.out (by kernel_rfl)) (fun _ _ _ h => h) (Or.inl ⟨by rfl, ?_⟩) ?_ ?_
                  rotate_left
                  · intro w'
                    go_simp
                    with_reducible rfl
                  rotate_left
                  · simp only [Act.put, List.setIfInBounds_toArray, List.set_cons_zero, List.set_cons_succ, i64_w, i32_w]
                    rfl
                  refine take_ (i := 4) (N := some 27) (v := ?_) (a' := ?_) #[true, true, true, true, true, true, false, false, false, false, false] rfl rfl (take_ofW HT_.out HW_.out (by kernel_rfl)) (fun _ _ _ h => h) (Or.inl ⟨by rfl, ?_⟩) hHeld ?_ ?_
                  rotate_left
                  · rintro w' ⟨s0, s1, s2, s3⟩
                    go_simp
                    with_reducible rfl
                  rotate_left
                  · simp only [Act.put, List.setIfInBounds_toArray, List.set_cons_zero, List.set_cons_succ, i64_w, i32_w]
                    rfl
                  refine take_ (i := 6) (N := some 29) (v := ?_) (a' := ?_) #[true, true, true, true, true, true, true, false, false, false, false] rfl rfl (take_ofW HT_.out HW_.out (by kernel_rfl)) (fun _ _ _ h => h) (Or.inl ⟨by rfl, ?_⟩) hHeld ?_ ?_
                  rotate_left
                  · rintro w' ⟨s0, s1, s2, s3⟩
                    go_simp
                    with_reducible rfl
                  rotate_left
                  · simp only [Act.put, List.setIfInBounds_toArray, List.set_cons_zero, List.set_cons_succ, i64_w, i32_w]
                    rfl
                  refine pure_ (i := 7) (N := some 30) (v := ?_) (a' := ?_) #[true, true, true, true, true, true, true, true, false, false, false] rfl rfl (any_of HT_.out (by kernel_rfl)) (fun _ _ _ h => h) (Or.inl ⟨by rfl, ?_⟩) ?_ ?_
                  rotate_left
                  · intro w'
                    go_simp
                    with_reducible rfl
                  rotate_left
                  · simp only [Act.put, List.setIfInBounds_toArray, List.set_cons_zero, List.set_cons_succ, i64_w, i32_w]
                    rfl
                  refine pure_ (i := 8) (N := some 31) (v := ?_) (a' := ?_) #[true, true, true, true, true, true, true, true, true, false, false] rfl rfl (any_of HT_.out (by kernel_rfl)) (fun _ _ _ h => h) (Or.inl ⟨by rfl, ?_⟩) ?_ ?_
                  rotate_left
                  · intro w'
                    go_simp
                    with_reducible rfl
                  rotate_left
                  · simp only [Act.put, List.setIfInBounds_toArray, List.set_cons_zero, List.set_cons_succ, i64_w, i32_w]
                    rfl
                  refine pure_ (i := 9) (N := some 32) (v := ?_) (a' := ?_) #[true, true, true, true, true, true, true, true, true, true, false] rfl rfl (any_of HT_.out (by kernel_rfl)) (fun _ _ _ h => h) (Or.inl ⟨by rfl, ?_⟩) ?_ ?_
                  rotate_left
                  · intro w'
                    go_simp
                    with_reducible rfl
                  rotate_left
                  · simp only [Act.put, List.setIfInBounds_toArray, List.set_cons_zero, List.set_cons_succ, i64_w, i32_w]
                    rfl
                  refine last_ (i := 10) (N := none) #[true, true, true, true, true, true, true, true, true, true, true] rfl rfl (one_of HT_.out (by kernel_rfl)) (by decide) (fun K hK => ?_)
                  refine skip_ (w1 := ?_) (by rfl) rfl ?_ ?_
                  rotate_left
                  · go_simp
                    rfl
                  refine hK.out _ _ ?_
                  clear hK K
                  refine done_ (done_of HT_.out (by kernel_rfl)) ?_
                  try go_wp2
                  have n0_ : Aside0 (Kd.R k24 24 (w21.setCell ⟨go19, (x20_2 : Int).toNat * 2, none⟩ (.int .i64 (wrap64 (((rd_T24 x6_2 x20_2).f0) + x380000_2)))) w.heap.size (fun k_ => k_ ≠ gb379) (.slice (some ⟨go19, 0, none⟩) x6_2.length co15) y386) := ⟨by (with_reducible repeat (first | apply Kd.R_alloc | apply Kd.R_drewN | apply Kd.R_drew)); exact HQ22.out⟩
                  have n1_ : Aside0 ((w21.setCell ⟨go19, (x20_2 : Int).toNat * 2, none⟩ (.int .i64 (wrap64 (((rd_T24 x6_2 x20_2).f0) + x380000_2)))).heap[gb379]? = some (.cells #[.int .i64 x380000_2, .int .i64 x380001_2] 24 (0, 0))) := ⟨by (with_reducible repeat (first | refine blk_drewN ?_ _ | refine blk_drew ?_ | refine blk_alloc ?_ _)); refine blk_far ?_ (by have h_ := Kd.R_away HO_6.out (fun _ hk => hk); intro e_; exact h_ (by rw [e_]; rfl)) _; (with_reducible repeat (first | refine blk_drewN ?_ _ | refine blk_drew ?_ | refine blk_alloc ?_ _)); exact BK379.out⟩
                  have n2_ : Aside0 (Below w.heap.size w (w21.setCell ⟨go19, (x20_2 : Int).toNat * 2, none⟩ (.int .i64 (wrap64 (((rd_T24 x6_2 x20_2).f0) + x380000_2))))) := ⟨by repeat (first | (with_reducible first | exact HB.out | apply below_alloc | apply pw_below_drewN | apply below_drew1 | refine below_set ?_ GB19.out | refine below_set ?_ GE379.out) | exact HB.out)⟩
                  (try clear HO_6)
                  (try clear BK379)
                  (try clear HB)
                  generalize (w21.setCell ⟨go19, (x20_2 : Int).toNat * 2, none⟩ (.int .i64 (wrap64 (((rd_T24 x6_2 x20_2).f0) + x380000_2)))) = w23 at n0_ n1_ n2_ ⊢
                  have HO_6 := n0_
                  have BK379 := n1_
                  have HB := n2_
                  clear n0_ n1_ n2_
                  have n0_ := Aside0.mk (Kd.R_drew HO_6.out)
                  have n1_ := Aside0.mk (blk_drew BK379.out)
                  have n2_ := Aside0.mk (below_drew1 HB.out)
                  clear HO_6
                  clear BK379
                  clear HB
                  have HO_6 := n0_
                  have BK379 := n1_
                  have HB := n2_
                  clear n0_ n1_ n2_
                  have p387 : 0 ≤ (x20_2 : Int) := of_decide_eq_true (by first | (with_reducible assumption) | assumption)
                  have q387 : x20_2 < (y386.length : Int) := (by have h_ : (x20_2 : Int) < ((x6_2.length : Int) : Int) := of_decide_eq_true (by first | (with_reducible assumption) | assumption); first | (have e_ := (Kd.R_reads' HO_6.out).1; omega) | simpa only [Ny386.out, List.length_set] using h_)
                  have ql387 : ((x20_2 : Int) < ((x6_2.length : Int) : Int)) = True := eq_true (of_decide_eq_true (by first | (with_reducible assumption) | assumption))
                  obtain ⟨ad387, e387, hx387_0, hx387_1⟩ := at_T24 (Kd.R_reads' HO_6.out).2.2 x20_2 p387 q387
                  obtain rfl : (⟨go19, 0, none⟩ : Addr) = ad387 := (by injection e387)
                  (first | simp only [add_plain] at hx387_0 | simp only [add_at] at hx387_0 | simp only [Addr.add, Nat.zero_add] at hx387_0 | skip)
                  (first | simp only [add_plain] at hx387_1 | simp only [add_at] at hx387_1 | simp only [Addr.add, Nat.zero_add] at hx387_1 | skip)
                  replace p387 := eq_true p387
                  replace q387 := eq_true q387
                  have p20 : 0 ≤ (x20_2 : Int) := of_decide_eq_true (by first | (with_reducible assumption) | assumption)
                  have q20 : (x20_2 : Int) < ((x6_2.length : Int) : Int) := of_decide_eq_true (by first | (with_reducible assumption) | assumption)
                  obtain ⟨ce20, hcl20, hM20, hcc20, hfr20⟩ := Kd.R_elem HO_6.out z24 (x20_2 : Int) p20 q20
                  obtain rfl := k24_openM hM20
                  have hx20_0 : World.cell? _ ⟨go19, (x20_2 : Int).toNat * 2, none⟩ = some (.int .i64 ((rd_T24 y386 x20_2).f0)) := hcc20 0 _ rfl
                  have hx20_1 : World.cell? _ ⟨go19, (x20_2 : Int).toNat * 2 + 1, none⟩ = some (.int .i64 ((rd_T24 y386 x20_2).f1)) := hcc20 1 _ rfl
                  have hf20_0 : World.frozen? _ ⟨go19, (x20_2 : Int).toNat * 2, none⟩ = false := hfr20 0
                  have hf20_1 : World.frozen? _ ⟨go19, (x20_2 : Int).toNat * 2 + 1, none⟩ = false := hfr20 1
                  clear hcl20 hcc20 hfr20 hM20
                  replace p20 := eq_true p20
                  replace q20 := eq_true q20
                  obtain ⟨ce25, hcl25, hM25, hcc25, hfr25⟩ := Kd.R_elem HO_6.out z24 (x20_2 : Int) (of_decide_eq_true (by first | (with_reducible assumption) | assumption)) (by have h_ : (x20_2 : Int) < ((x6_2.length : Int) : Int) := of_decide_eq_true (by first | (with_reducible assumption) | assumption); first | exact h_ | (have e_ := (Kd.R_reads' HO_6.out).1; omega) | simpa using h_)
                  obtain rfl := k24_openM hM25
                  have HP25 := (Kd.R_seg HO_6.out (x20_2 : Int) (of_decide_eq_true (by first | (with_reducible assumption) | assumption)) (by have h_ : (x20_2 : Int) < ((x6_2.length : Int) : Int) := of_decide_eq_true (by first | (with_reducible assumption) | assumption); first | exact h_ | (have e_ := (Kd.R_reads' HO_6.out).1; omega) | simpa using h_) (seg := [.int .i64 (wrap64 (((rd_T24 y386 x20_2).f1) + x380001_2))]) (j := 1) hcl25 hcc25 (show 2 ≤ 2 from by decide) (x' := (⟨(rd_T24 y386 x20_2).f0, wrap64 (((rd_T24 y386 x20_2).f1) + x380001_2)⟩ : S24)) (k24_mkM _ _ _ (⟨(rd_T24 y386 x20_2).f0, wrap64 (((rd_T24 y386 x20_2).f1) + x380001_2)⟩ : S24) ) (fun _ hk => hk)).1
                  rw [← Ny388.out] at HP25
                  have HQ25 := Aside0.mk HP25
                  clear hcl25 hcc25 hfr25 hM25 HP25
                  refine start_ (n := 11) (S := fun w' => w'.cell? ⟨gb379, 0, none⟩ = some (.int .i64 x380000_2) ∧ w'.cell? ⟨gb379, 1, none⟩ = some (.int .i64 x380001_2) ∧ w'.cell? ⟨go19, (x20_2).toNat * 2, none⟩ = some (.int .i64 ((rd_T24 y386 x20_2).f0)) ∧ w'.cell? ⟨go19, (x20_2).toNat * 2 + 1, none⟩ = some (.int .i64 ((rd_T24 y386 x20_2).f1))) (ds := [10]) #[false, false, false, false, false, false, false, false, false, false, false] (by kernel_rfl) rfl rfl ⟨(blk_cell BK379.out 0).trans rfl, (blk_cell BK379.out 1).trans rfl, hx387_0, hx387_1⟩ (fun hHeld => ?_); refine with_tabW wind_Shift.tab8 wind_Shift.bits8 (fun HT_ HW_ => ?_)
                  generalize w23.drew = w24 at HO_6 BK379 HB HQ22 HQ25 hf20_0 hf20_1 hx20_0 hx20_1 hx387_0 hx387_1 hHeld ⊢
                  refine pure_ (i := 0) (N := some 33) (v := ?_) (a' := ?_) #[true, false, false, false, false, false, false, false, false, false, false] rfl rfl (any_of HT_.out (by kernel_rfl)) (fun _ _ _ h => h) (Or.inl ⟨by rfl, ?_⟩) ?_ ?_
                  rotate_left
                  · intro w'
                    go_simp
                    with_reducible rfl
                  rotate_left
                  · simp only [Act.put, List.setIfInBounds_toArray, List.set_cons_zero, List.set_cons_succ, i64_w, i32_w]
                    rfl
                  refine pure_ (i := 1) (N := some 34) (v := ?_) (a' := ?_) #[true, true, false, false, false, false, false, false, false, false, false] rfl rfl (any_of HT_.out (by kernel_rfl)) (fun _ _ _ h => h) (Or.inl ⟨by rfl, ?_⟩) ?_ ?_
                  rotate_left
                  · intro w'
                    go_simp
                    with_reducible rfl
                  rotate_left
                  · simp only [Act.put, List.setIfInBounds_toArray, List.set_cons_zero, List.set_cons_succ, i64_w, i32_w]
                    rfl
                  refine pure_ (i := 2) (N := some 35) (v := ?_) (a' := ?_) #[true, true, true, false, false, false, false, false, false, false, false] rfl rfl (any_of HT_.out (by kernel_rfl)) (fun _ _ _ h => h) (Or.inl ⟨by rfl, ?_⟩) ?_ ?_
                  rotate_left
                  · intro w'
                    go_simp
                    with_reducible rfl
                  rotate_left
                  · simp only [Act.put, List.setIfInBounds_toArray, List.set_cons_zero, List.set_cons_succ, i64_w, i32_w]
                    rfl
                  refine pure_ (i := 3) (N := some 36) (v := ?_) (a' := ?_) #[true, true, true, true, false, false, false, false, false, false, false] rfl rfl (any_of HT_.out (by kernel_rfl)) (fun _ _ _ h => h) (Or.inl ⟨by rfl, ?_⟩) ?_ ?_
                  rotate_left
                  · intro w'
                    go_simp
                    with_reducible rfl
                  rotate_left
                  · simp only [Act.put, List.setIfInBounds_toArray, List.set_cons_zero, List.set_cons_succ, i64_w, i32_w]
                    rfl
                  refine pure_ (i := 5) (N := some 38) (v := ?_) (a' := ?_) #[true, true, true, true, false, true, false, false, false, false, false] rfl rfl (any_of HT_.out (by kernel_rfl)) (fun _ _ _ h => h) (Or.inl ⟨by rfl, ?_⟩) ?_ ?_
                  rotate_left
                  · intro w'
                    go_simp
                    with_reducible rfl
                  rotate_left
                  · simp only [Act.put, List.setIfInBounds_toArray, List.set_cons_zero, List.set_cons_succ, i64_w, i32_w]
                    rfl
                  refine take_ (i := 4) (N := some 37) (v := ?_) (a' := ?_) #[true, true, true, true, true, true, false, false, false, false, false] rfl rfl (take_ofW HT_.out HW_.out (by kernel_rfl)) (fun _ _ _ h => h) (Or.inl ⟨by rfl, ?_⟩) hHeld ?_ ?_
                  rotate_left
                  · rintro w' ⟨s0, s1, s2, s3⟩
                    go_simp
                    with_reducible rfl
                  rotate_left
                  · simp only [Act.put, List.setIfInBounds_toArray, List.set_cons_zero, List.set_cons_succ, i64_w, i32_w]
                    rfl
                  refine take_ (i := 6) (N := some 39) (v := ?_) (a' := ?_) #[true, true, true, true, true, true, true, false, false, false, false] rfl rfl (take_ofW HT_.out HW_.out (by kernel_rfl)) (fun _ _ _ h => h) (Or.inl ⟨by rfl, ?_⟩) hHeld ?_ ?_
                  rotate_left
                  · rintro w' ⟨s0, s1, s2, s3⟩
                    go_simp
                    with_reducible rfl
                  rotate_left
                  · simp only [Act.put, List.setIfInBounds_toArray, List.set_cons_zero, List.set_cons_succ, i64_w, i32_w]
                    rfl
                  refine pure_ (i := 7) (N := some 40) (v := ?_) (a' := ?_) #[true, true, true, true, true, true, true, true, false, false, false] rfl rfl (any_of HT_.out (by kernel_rfl)) (fun _ _ _ h => h) (Or.inl ⟨by rfl, ?_⟩) ?_ ?_
                  rotate_left
                  · intro w'
                    go_simp
                    with_reducible rfl
                  rotate_left
                  · simp only [Act.put, List.setIfInBounds_toArray, List.set_cons_zero, List.set_cons_succ, i64_w, i32_w]
                    rfl
                  refine pure_ (i := 8) (N := some 41) (v := ?_) (a' := ?_) #[true, true, true, true, true, true, true, true, true, false, false] rfl rfl (any_of HT_.out (by kernel_rfl)) (fun _ _ _ h => h) (Or.inl ⟨by rfl, ?_⟩) ?_ ?_
                  rotate_left
                  · intro w'
                    go_simp
                    with_reducible rfl
                  rotate_left
                  · simp only [Act.put, List.setIfInBounds_toArray, List.set_cons_zero, List.set_cons_succ, i64_w, i32_w]
                    rfl
                  refine pure_ (i := 9) (N := some 42) (v := ?_) (a' := ?_) #[true, true, true, true, true, true, true, true, true, true, false] rfl rfl (any_of HT_.out (by kernel_rfl)) (fun _ _ _ h => h) (Or.inl ⟨by rfl, ?_⟩) ?_ ?_
                  rotate_left
                  · intro w'
                    go_simp
                    with_reducible rfl
                  rotate_left
                  · simp only [Act.put, List.setIfInBounds_toArray, List.set_cons_zero, List.set_cons_succ, i64_w, i32_w]
                    rfl
                  refine last_ (i := 10) (N := none) #[true, true, true, true, true, true, true, true, true, true, true] rfl rfl (one_of HT_.out (by kernel_rfl)) (by decide) (fun K hK => ?_)
                  refine skip_ (w1 := ?_) (by rfl) rfl ?_ ?_
                  rotate_left
                  · go_simp
                    rfl
                  refine hK.out _ _ ?_
                  clear hK K
                  refine done_ (done_of HT_.out (by kernel_rfl)) ?_
                  try go_wp2
                  (try simp only [← hl6_2])
                  go_roundg k2
                  case measure => have := HJ2.out; have := HK2.out; omega
                  case rel => exact ⟨(y388), (wrap64 (x20_2 + 1)), (x380000_2), (x380001_2), (by first | rfl | (simp; done) | (simp [*]; done)), H', ⟨by have := HJ2.out; have := HK2.out; omega⟩, ⟨by (try simp only [hl6_2]); (with_reducible repeat (first | apply Kd.R_alloc | apply Kd.R_drewN | apply Kd.R_drew)); exact HQ25.out⟩, ⟨by (try simp only [hl6_2]); (with_reducible repeat (first | refine blk_drewN ?_ _ | refine blk_drew ?_ | refine blk_alloc ?_ _)); refine blk_far ?_ (by have h_ := Kd.R_away HO_6.out (fun _ hk => hk); intro e_; exact h_ (by rw [e_]; rfl)) _; (with_reducible repeat (first | refine blk_drewN ?_ _ | refine blk_drew ?_ | refine blk_alloc ?_ _)); exact BK379.out⟩, ⟨by repeat (first | (with_reducible first | exact HB.out | apply below_alloc | apply pw_below_drewN | apply below_drew1 | refine below_set ?_ GB19.out | refine below_set ?_ GE379.out) | exact HB.out)⟩⟩
                · rw [if_neg c18] at H
                  exact absurd H (by simp)
              · rw [if_neg c17] at H
                exact absurd H (by simp)
            · rw [if_neg c16] at H
              have c16b0 : decide (x20_2 < (t382.length : Int)) = false := decide_eq_false c16
              (try simp only [hl6_2] at c16b0)
              clear c16
              replace H := Option.bind_eq_some_iff.mp H
              obtain ⟨t389, A260, H⟩ := H
              replace H : (if t389 = true then (some (x6_2, 0)) else (some (([] : List (S24)), 17))) = some (r1, r2) := H
              have A26 := Aside0.mk A260
              clear A260
              by_cases c27 : t389 = true
              · subst c27
                have H1 : (some (x6_2, 0)) = some (r1, r2) := by rw [if_pos rfl] at H; exact H
                clear H
                have H := H1
                clear H1
                simp only [Option.some.injEq, Prod.mk.injEq] at H
                obtain ⟨rfl, rfl⟩ := H
                go_wp2_with (first | ((with_reducible refine gate_callee (f := 60) rfl ?_); refine goesL_ (some 45) rfl rfl Try.func60 (by kernel_rfl) rfl #[.slice Ao15 x6_2.length co15] rfl (by (try simp only [List.map_toArray, List.map_cons, List.map_nil]); first | done | rfl | (simp only [List.length_drop, List.length_take]; rfl)) ?_; (with_reducible refine (flat_ArePoints.calls _ _ x6_2 true _ ?side1 ?side2 A26.out).mono ?_); (case side1 => repeat (first | exact (Kd.R_reads' HO_6.out).2.2 | (with_reducible refine Kd.C_alloc ?_ _) | (with_reducible refine Kd.C_drewN ?_ _) | (with_reducible refine Kd.C_drew ?_))); (case side2 => exact (Kd.R_reads' HO_6.out).2.1); rintro e w28 ⟨rfl, hb⟩; refine ⟨_, rfl, ?_⟩; have n0_ := Aside0.mk (Kd.R_below (by (with_reducible repeat (first | apply Kd.R_alloc | apply Kd.R_drewN | apply Kd.R_drew)); exact HO_6.out) hb); have n1_ := Aside0.mk (blk_below (g := gb379) (o := .cells #[.int .i64 x380000_2, .int .i64 x380001_2] 24 (0, 0)) (by (with_reducible repeat (first | refine blk_drewN ?_ _ | refine blk_drew ?_ | refine blk_alloc ?_ _)); exact BK379.out) hb); have n2_ := Aside0.mk (below_step (by repeat (first | (with_reducible first | exact HB.out | apply below_alloc | apply pw_below_drewN | apply below_drew1 | refine below_set ?_ GE379.out) | exact HB.out)) hb); clear HO_6; clear BK379; clear HB; have HO_6 := n0_; have BK379 := n1_; have HB := n2_; clear n0_ n1_ n2_; (try clear hb); (try clear hb2); (try clear hk); (try clear hi)))
                go_ret2
                exact ⟨_, by first | rfl | (simp [errW_none, errW_some] <;> rfl) | (simp [*, errW_none, errW_some] <;> rfl), by (with_reducible repeat (first | apply Kd.R_alloc | apply Kd.R_drewN | apply Kd.R_drew)); exact Kd.R_mono HO_6.out (fun _ hk => trivial), by repeat (first | (with_reducible first | exact HB.out | apply below_alloc | apply pw_below_drewN | apply below_drew1 | refine below_set ?_ GE379.out) | exact HB.out)⟩
              · replace c27 := Bool.eq_false_iff.mpr c27
                subst c27
                have H1 : (some (([] : List (S24)), 17)) = some (r1, r2) := by rw [if_neg (show ¬ (false = true) by decide)] at H; exact H
                clear H
                have H := H1
                clear H1
                simp only [Option.some.injEq, Prod.mk.injEq] at H
                obtain ⟨rfl, rfl⟩ := H
                go_wp2_with (first | ((with_reducible refine gate_callee (f := 60) rfl ?_); refine goesL_ (some 45) rfl rfl Try.func60 (by kernel_rfl) rfl #[.slice Ao15 x6_2.length co15] rfl (by (try simp only [List.map_toArray, List.map_cons, List.map_nil]); first | done | rfl | (simp only [List.length_drop, List.length_take]; rfl)) ?_; (with_reducible refine (flat_ArePoints.calls _ _ x6_2 false _ ?side1 ?side2 A26.out).mono ?_); (case side1 => repeat (first | exact (Kd.R_reads' HO_6.out).2.2 | (with_reducible refine Kd.C_alloc ?_ _) | (with_reducible refine Kd.C_drewN ?_ _) | (with_reducible refine Kd.C_drew ?_))); (case side2 => exact (Kd.R_reads' HO_6.out).2.1); rintro e w29 ⟨rfl, hb⟩; refine ⟨_, rfl, ?_⟩; have n0_ := Aside0.mk (Kd.R_below (by (with_reducible repeat (first | apply Kd.R_alloc | apply Kd.R_drewN | apply Kd.R_drew)); exact HO_6.out) hb); have n1_ := Aside0.mk (blk_below (g := gb379) (o := .cells #[.int .i64 x380000_2, .int .i64 x380001_2] 24 (0, 0)) (by (with_reducible repeat (first | refine blk_drewN ?_ _ | refine blk_drew ?_ | refine blk_alloc ?_ _)); exact BK379.out) hb); have n2_ := Aside0.mk (below_step (by repeat (first | (with_reducible first | exact HB.out | apply below_alloc | apply pw_below_drewN | apply below_drew1 | refine below_set ?_ GE379.out) | exact HB.out)) hb); clear HO_6; clear BK379; clear HB; have HO_6 := n0_; have BK379 := n1_; have HB := n2_; clear n0_ n1_ n2_; (try clear hb); (try clear hb2); (try clear hk); (try clear hi)))
                go_ret2
                exact ⟨_, by first | rfl | (simp [errW_none, errW_some] <;> rfl) | (simp [*, errW_none, errW_some] <;> rfl), by first | exact Kd.R_nil _ _ _ _ _ | exact Kd.N_nil _ _ _ _ _ | exact Kd.V_nil _ _ _ _ _ | exact Kd.Q_nil _ _ _ _ _ | exact Kd.S_nil _ _ _ _ _, by repeat (first | (with_reducible first | exact HB.out | apply below_alloc | apply pw_below_drewN | apply below_drew1 | refine below_set ?_ GE379.out) | exact HB.out)⟩

/-! ### api_Point_66: function 66 (by hand) -/
set_option maxHeartbeats 4000000 in
set_option maxRecDepth 100000 in
/-- slices.Grow at nil: an empty row of the call's own, with room. -/
theorem growP_calls (n : Int) (w : World) (hn0 : 0 ≤ n) (hn : n < 8796093022208) :
    Calls Try.prog 78 #[.slice none 0 0, .int .i64 n] w fun e w' => ∃ v0_ : Value, e = .returned (v0_) ∧ Kd.R k24 24 w' w.heap.size (fun _ => True) v0_ [] ∧ Below w.heap.size w w' := by
  obtain ⟨i0, hi0, _, hsz, _⟩ := info_parts info24
  have hcut0 := cut_to (P := Try.prog) 31 24 .i64 Try.underlying31 hi0 none 0 0 0 (by omega) (by omega) (by omega)
  have hcut1 := fun (A : Option Addr) (m c : Nat) (h : m ≤ c) => cut_to (P := Try.prog) 31 24 .i64 Try.underlying31 hi0 A m c 0 (by omega) (by omega) h
  have hq : decide (n < 0) = false := decide_eq_false (by omega)
  have hw : wrap64 n = n := by unfold wrap64; omega
  have HN := Aside0.mk (show 0 ≤ n ∧ n < 8796093022208 from ⟨hn0, hn⟩)
  by_cases h0 : n = 0
  · subst h0
    go_enter Try.func78, Try.ntmps78
    go_wp2
    go_ret
    exact ⟨_, rfl, Kd.R_nil _ _ _ _ _, Below.refl _ _⟩
  · have hp : decide (0 < n) = true := decide_eq_true (by omega)
    have HC := Aside0.mk hcut1
    have HW := Aside0.mk hw
    clear hcut1 hn hn0 h0
    go_enter Try.func78, Try.ntmps78
    go_wp2_with ((with_reducible refine gate_builtin (b := .append) (xs := #[.tmp 20, .tmp 21]) rfl ?_); at_builtin; refine Kd.R_append_zeros k24 (w0 := w) w.heap.size rfl (.tmp 20) (.tmp 21) 31 3 24 (.agg #[(.int .i64 0), (.int .i64 0)]) 16 rfl Try.underlying31 Try.underlying3 info24 rfl (by decide) (by omega) (.slice none 0 0) [] z24 (wrap64 n) (fun _ => True) rfl rfl ?aZ (fun _ _ => trivial) ?aO (by rw [HW.out]; exact HN.out.1) ?aB ?aS ?aL ?_; (case aZ => exact k24_mkM _ _ _ z24); (case aO => exact Kd.R_nil _ _ _ _ _); (case aB => first | exact Below.refl _ _ | exact below_drew1 (Below.refl _ _)); (case aS => simp); (case aL => have := HN.out; rw [HW.out]; simp only [List.length_nil]; omega); intro v1 w1 ho hb hg hat; obtain ⟨A1, c1, rfl⟩ := Kd.R_slice ho; have hc := HC.out A1 _ c1 (Kd.R_reads' ho).2.1; have HO := Aside0.mk ho; have HB := Aside0.mk hb; clear ho hb hg hat HC)
    go_ret
    exact ⟨_, rfl, Kd.R_take HO.out (Nat.zero_le _), HB.out⟩
theorem take_next (l0 : List (List S24)) (kk : Nat) (h : kk < l0.length) : (l0.take (kk + 1)).flatten = (l0.take kk).flatten ++ rd_L2 l0 (kk : Int) := by
  rw [List.take_add_one, List.flatten_append]
  congr 1
  rw [List.getElem?_eq_getElem h]
  simp [rd_L2, h]
theorem take_flat (l0 : List (List S24)) (kk : Nat) : (l0.take kk).flatten.length ≤ l0.flatten.length := by
  conv => rhs; rw [← List.take_append_drop kk l0, List.flatten_append, List.length_append]
  omega
def api_Point_66.f (l0 : List (List S24)) : Option (List S24) := if l0.length < 8796093022208 ∧ l0.flatten.length < 8796093022208 then some l0.flatten else none
set_option maxHeartbeats 4000000 in
set_option maxRecDepth 100000 in
theorem api_Point_66.calls (A0 : Option Addr) (c0 : Nat) (l0 : List (List S24)) (r : List S24) (w : World) (hr0 : Kd.C (Kd.slice 24 k24) w A0 l0.length l0) (hc0 : l0.length ≤ c0) (h : api_Point_66.f l0 = some r) :
    Calls Try.prog 66 #[.slice A0 l0.length c0] w fun e w' => ∃ v0_ : Value, e = .returned (v0_) ∧ Kd.R k24 24 w' w.heap.size (fun _ => True) v0_ r ∧ Below w.heap.size w w' := by
  unfold api_Point_66.f at h
  by_cases hl : l0.length < 8796093022208 ∧ l0.flatten.length < 8796093022208
  · rw [if_pos hl] at h
    obtain rfl : l0.flatten = r := Option.some.inj h
    have HR0 := Aside0.mk hr0
    have HL := Aside0.mk hl
    have HB0 := Aside0.mk (Below.refl w.heap.size w)
    clear hr0 h hl hc0
    go_enter Try.func66, Try.ntmps66
    go_wp2
    go_loopg [3, 5, 11] l0.length (fun gg s3 s5 s11 wr => ∃ (kk : Nat) (sz : Int), kk ≤ l0.length ∧ l0.length - kk ≤ gg ∧ s3 = .int .i64 sz ∧ s11 = .int .i64 kk ∧ Aside0 (sz = ((l0.take kk).flatten.length : Int)) ∧ Aside0 (Below w.heap.size w wr))
    case atStart => exact ⟨0, 0, Nat.zero_le _, by omega, rfl, rfl, ⟨by simp⟩, ⟨by first | exact HB0.out | exact below_drew1 HB0.out⟩⟩
    case round =>
      obtain ⟨kk, sz, hkk, hg, rfl, rfl, HS, HB⟩ := hrel
      by_cases hlt : kk < l0.length
      · have hlti : (kk : Int) < (l0.length : Int) := by omega
        obtain ⟨ad, A1, c1, rfl, hx, hlx, hix⟩ := at_L2 HR0.out (kk : Int) (by omega) hlti
        replace hx := (HB.out.cell (World.block_lt_of_cell? w _ hx)).trans hx
        simp only [Int.toNat_natCast] at hx
        obtain ⟨sz', hsz'⟩ : ∃ s : Int, s = ((l0.take (kk + 1)).flatten.length : Int) := ⟨_, rfl⟩
        have hn := take_next l0 kk hlt
        have hle := take_flat l0 (kk + 1)
        have hstep : wrap64 (sz + ((rd_L2 l0 (kk : Int)).length : Int)) = sz' := by
          rw [hsz', hn, List.length_append, HS.out]
          rw [hn, List.length_append] at hle
          have := HL.out.2
          unfold wrap64
          omega
        have hneg : decide (sz' < 0) = false := decide_eq_false (by omega)
        have HSZ := Aside0.mk hsz'
        generalize rd_L2 l0 (kk : Int) = x at *
        clear hn hle hsz' hix hlx
        go_wp2
        go_roundg (l0.length - (kk + 1))
        case measure => omega
        case rel => exact ⟨kk + 1, sz', by omega, by omega, congrArg (Value.int .i64) hstep, congrArg (Value.int .i64) (show wrap64 ((kk : Int) + 1) = ((kk + 1 : Nat) : Int) by have := HL.out.1; unfold wrap64; omega), HSZ, ⟨by first | exact HB.out | exact below_drew1 HB.out⟩⟩
      · have hlti : ¬ (kk : Int) < (l0.length : Int) := by omega
        obtain rfl : kk = l0.length := by omega
        have hsz0 : 0 ≤ sz ∧ sz < 8796093022208 := by
          rw [HS.out, List.take_of_length_le (Nat.le_refl _)]
          exact ⟨by omega, by have := HL.out.2; omega⟩
        go_wp2_with fail
        refine (growP_calls sz _ hsz0.1 hsz0.2).mono ?_
        rintro e W2 ⟨v0, rfl, ho, hb⟩
        have HO := Aside0.mk (Kd.R_lower ho (below_size (by first | exact HB.out | exact below_drew1 HB.out)))
        have HB2 := Aside0.mk (below_step (by first | exact HB.out | exact below_drew1 HB.out) hb)
        clear ho hb HB HS hsz0
        obtain ⟨A9, c9, rfl⟩ := Kd.R_slice HO.out
        go_wp2
        go_loopg [6, 8, 27] l0.length (fun gg s6 s8 s27 wr => ∃ (kk : Nat), kk ≤ l0.length ∧ l0.length - kk ≤ gg ∧ s27 = .int .i64 kk ∧ Aside0 (Kd.R k24 24 wr w.heap.size (fun _ => True) s6 (l0.take kk).flatten) ∧ Aside0 (Below w.heap.size w wr))
        case atStart => exact ⟨0, Nat.zero_le _, by omega, rfl, ⟨by simpa using HO.out⟩, ⟨by first | exact HB2.out | exact below_drew1 HB2.out⟩⟩
        case round =>
          clear HO HB2
          obtain ⟨kk, hkk, hg, rfl, HO, HB⟩ := hrel
          by_cases hlt : kk < l0.length
          · have hlti : (kk : Int) < (l0.length : Int) := by omega
            obtain ⟨ad, A1, c1, rfl, hx, hlx, hix⟩ := at_L2 HR0.out (kk : Int) (by omega) hlti
            replace hx := (HB.out.cell (World.block_lt_of_cell? w _ hx)).trans hx
            simp only [Int.toNat_natCast] at hx
            have hn := take_next l0 kk hlt
            have hle := take_flat l0 (kk + 1)
            rw [hn, List.length_append] at hle
            have HN := Aside0.mk hn
            have HLE := Aside0.mk hle
            have HI := Aside0.mk hix
            generalize rd_L2 l0 (kk : Int) = x at *
            have HKS := Aside0.mk (show wrap64 ((kk : Int) + 1) = ((kk + 1 : Nat) : Int) by have := HL.out.1; unfold wrap64; omega)
            clear hn hle hix hlx
            have HY := Aside0.mk (show (l0.take kk).flatten ++ x = (l0.take (kk + 1)).flatten from HN.out.symm)
            generalize hys : (l0.take (kk + 1)).flatten = ys at HY
            generalize hxs : (l0.take kk).flatten = xs at HO HLE HY
            obtain ⟨A8, c8, rfl⟩ := Kd.R_slice HO.out
            have HYS := Aside0.mk hys
            clear HN hys hxs
            go_wp2_with ((with_reducible refine gate_builtin (b := .append) (xs := #[.tmp 31, .tmp 32]) rfl ?_); at_builtin; refine Kd.R_append_rows k24 (w0 := w) w.heap.size rfl (.tmp 31) (.tmp 32) 31 24 (.agg #[(.int .i64 0), (.int .i64 0)]) 16 rfl Try.underlying31 info24 rfl (by decide) (by omega) (.slice A8 xs.length c8) xs x _ _ _ (fun _ => True) (fun _ => False) rfl rfl ?aO ?aR (fun _ _ h => h) (fun _ h => h.elim) (fun _ _ => trivial) ?aB ?aS ?aL ?_; (case aR => repeat (first | exact (Kd.C_below HI.out HB.out) | (with_reducible refine Kd.C_alloc ?_ _) | (with_reducible refine Kd.C_drewN ?_ _) | (with_reducible refine Kd.C_drew ?_))); (case aB => first | exact HB.out | exact below_drew1 HB.out | exact below_drew1 (below_drew1 HB.out)); (case aO => (with_reducible repeat (first | apply Kd.R_alloc | apply Kd.R_drewN | apply Kd.R_drew)); exact HO.out); (case aS => exact (below_size (by first | exact HB.out | exact below_drew1 HB.out | exact below_drew1 (below_drew1 HB.out)))); (case aL => have := HLE.out; have := HL.out; omega); intro v1 w1 ho hb hg hat; rw [HY.out] at ho; obtain ⟨A7, c7, rfl⟩ := Kd.R_slice ho; have HO1 := Aside0.mk ho; have HB1 := Aside0.mk hb; clear ho hb hg hat)
            go_roundg (l0.length - (kk + 1))
            case measure => omega
            case rel => exact ⟨kk + 1, by omega, by omega, congrArg (Value.int .i64) HKS.out, ⟨by rw [HYS.out]; (with_reducible repeat (first | apply Kd.R_alloc | apply Kd.R_drewN | apply Kd.R_drew)); exact HO1.out⟩, ⟨by first | exact HB1.out | exact below_drew1 HB1.out⟩⟩
          · have hlti : ¬ (kk : Int) < (l0.length : Int) := by omega
            obtain rfl : kk = l0.length := by omega
            have hxs : (l0.take l0.length).flatten = l0.flatten := by rw [List.take_of_length_le (Nat.le_refl _)]
            rw [hxs] at HO
            obtain ⟨xs, hf⟩ : ∃ xs, l0.flatten = xs := ⟨_, rfl⟩
            rw [hf] at HO
            have HF := Aside0.mk hf
            clear hf hxs
            obtain ⟨A8, c8, rfl⟩ := Kd.R_slice HO.out
            go_wp2
            go_ret
            exact ⟨_, rfl, by rw [HF.out]; exact HO.out, HB.out⟩
  · rw [if_neg hl] at h
    exact absurd h (by simp)

end Go.Proofs.Ytdhgekogaoiidaa.PT2
