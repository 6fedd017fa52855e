import Derived.Test.YtoemkemmiikhlaaGreatLibMet
import Derived.Test.YtoemkemmiikhlaaGreatMetD
import Derived.Test.YtoemkemmiikhlaaGreatPF4x10
import Derived.Test.YtoemkemmiikhlaaGreatPF4x19
set_option linter.unusedVariables false
set_option linter.unusedSectionVars false
set_option linter.unusedSimpArgs false
namespace Go.Proofs.YtoemkemmiikhlaaGreat.PF4
open Go.RowKit Go.Proofs.YtoemkemmiikhlaaGreatW.PrintWords Go.Proofs.YtoemkemmiikhlaaGreatW.PrintLast Go.Proofs.YtoemkemmiikhlaaGreatW.PrintMore
section
variable {α:Type} (key:α→Int)
theorem insG_perm (x : α) : ∀ l : List α, (insG key x l).Perm (x :: l)
  | []=>List.Perm.refl _
  | y::l=>by
    rw [insG]
    split
    · exact ((insG_perm x l).cons y).trans (List.Perm.swap x y l)
    · exact List.Perm.refl _
theorem insG_sorted (x : α) : ∀ l : List α, (l.Pairwise fun a b => key a ≤ key b) → (insG key x l).Pairwise fun a b => key a ≤ key b
  | [],_=>List.pairwise_singleton _ _
  | y::l,h=>by
    rw [List.pairwise_cons] at h
    rw [insG]
    split
    · rename_i h1
      refine List.pairwise_cons.mpr ⟨fun z hz=>?_,insG_sorted x l h.2⟩
      rcases List.mem_cons.mp ((insG_perm key x l).mem_iff.mp hz) with rfl|hz
      · omega
      · exact h.1 z hz
    · rename_i h1
      refine List.pairwise_cons.mpr ⟨fun z hz=>?_,List.pairwise_cons.mpr h⟩
      rcases List.mem_cons.mp hz with rfl|hz
      · omega
      · have:=h.1 z hz;omega
theorem twG_iff (x : α) : ∀ l : List α, (l.Pairwise fun a b => key a ≤ key b) → (twG key x l = true ↔ ∃ y, y ∈ l ∧ key y = key x)
  | [],_=>by simp [twG]
  | y::l,h=>by
    rw [List.pairwise_cons] at h
    rw [twG]
    by_cases h1:key y<key x
    · rw [if_pos h1,twG_iff x l h.2]
      constructor
      · rintro ⟨z,hz,e⟩;exact ⟨z,List.mem_cons_of_mem _ hz,e⟩
      · rintro ⟨z,hz,e⟩
        rcases List.mem_cons.mp hz with rfl|hz
        · omega
        · exact ⟨z,hz,e⟩
    · rw [if_neg h1,beq_iff_eq]
      constructor
      · exact fun e=>⟨y,List.mem_cons_self ..,e⟩
      · rintro ⟨z,hz,e⟩
        rcases List.mem_cons.mp hz with rfl|hz
        · exact e
        · have:=h.1 z hz;omega
theorem ofG_spec (l : List α) : ∀ i, i ≤ l.length → (ofG key (l.take i)).1.Perm (l.take i) ∧ ((ofG key (l.take i)).1.Pairwise fun a b => key a ≤ key b) ∧ ((ofG key (l.take i)).2 = false ↔ (l.take i).Pairwise fun a b => key a ≠ key b)
  | 0,_=>⟨List.Perm.refl _,List.Pairwise.nil,by simp [ofG]⟩
  | i+1,hi=>by
    obtain ⟨h1,h2,h3⟩:=ofG_spec l i (by omega)
    rw [ofG_next key l i (by omega),List.take_succ_eq_append_getElem (by omega)]
    refine ⟨?_,insG_sorted key _ _ h2,?_⟩
    · exact (insG_perm key _ _).trans ((h1.cons _).trans (List.perm_append_singleton _ _).symm)
    · have h4:=twG_iff key l[i] _ h2
      simp only [Bool.or_eq_false_iff]
      rw [h3,List.pairwise_append]
      constructor
      · rintro ⟨a,b⟩
        refine ⟨a,List.pairwise_singleton _ _,fun y hy z hz=>?_⟩
        obtain rfl:=List.mem_singleton.mp hz
        intro e
        rw [(h4.mpr ⟨y,h1.mem_iff.mpr hy,e⟩)] at b
        cases b
      · rintro ⟨a,-,b⟩
        refine ⟨a,?_⟩
        cases hq:twG key l[i] (ofG key (l.take i)).1 with
        | false=>rfl
        | true =>
          obtain ⟨y,hy,e⟩:=h4.mp hq
          exact absurd e (b y (h1.mem_iff.mp hy) _ (List.mem_singleton.mpr rfl))
theorem ofG_all (l:List α):(ofG key l).1.Perm l∧((ofG key l).1.Pairwise fun a b=>key a≤key b)∧((ofG key l).2=false↔l.Pairwise fun a b=>key a≠key b):=by
  have:=ofG_spec key l l.length (Nat.le_refl _)
  rwa [List.take_length] at this
end
theorem ofC_same {gs cs:List MC} (hp:cs.Perm gs) (h:RiseC cs):(chainB (fun x y=>!(cmpC x y == 0)) cs = !(ofG keyC gs).2)∧((ofG keyC gs).2=false→cs=(ofG keyC gs).1):=by
  obtain ⟨h1,h2,h3⟩:=ofG_all keyC gs
  have hn:=chain_ne mC_ok cs h
  have hk:(cs.Pairwise fun x y=>cmpC x y≠0)↔gs.Pairwise fun a b=>keyC a≠keyC b:=by
    rw [pair_symm mC_ok hp]
    constructor
    · exact fun q=>q.imp fun {a b} q e=>q ((mC_eq a b).mpr e)
    · exact fun q=>q.imp fun {a b} q e=>q ((mC_eq a b).mp e)
  rw [hk,← h3] at hn
  constructor
  · cases hq:(ofG keyC gs).2 with
    | false=>exact hn.mpr hq
    | true =>
      cases hc:chainB (fun x y=>!(cmpC x y == 0)) cs with
      | false=>rfl
      | true=>rw [hn.mp hc] at hq;cases hq
  · intro hq
    exact rise_uniq mC_ok (hp.trans h1.symm) h (h2.imp fun {a b} q e=>by have:=(mC_lt b a).mp e;unfold keyC at q;omega) (hn.mpr hq)
theorem keyR_is {x:MR} (h:okR x=true):keyR x=256*x.f0+x.f1:=by
  have:=okR_code h
  unfold keyR
  rw [wrap64_small (n:=256*x.f0) (by omega) (by omega),wrap64_small (by omega) (by omega)]
theorem keyR_lt {x y:MR} (hx:okR x=true) (hy:okR y=true):cmpR x y<0↔keyR x<keyR y:=by
  have h1:=okR_code hx
  have h2:=okR_code hy
  rw [keyR_is hx,keyR_is hy,mR_lt]
  omega
theorem keyR_eq {x y:MR} (hx:okR x=true) (hy:okR y=true):cmpR x y=0↔keyR x=keyR y:=by
  have h1:=okR_code hx
  have h2:=okR_code hy
  rw [keyR_is hx,keyR_is hy,mR_eq]
  omega
theorem ofRR_same {ls rs:List MR} (ho : ∀ x∈ls,okR x=true) (hp:rs.Perm ls) (h:RiseR rs):(chainB (fun x y=>!(cmpR x y == 0)) rs = !(ofG keyR ls).2)∧((ofG keyR ls).2=false→rs=(ofG keyR ls).1):=by
  obtain ⟨h1,h2,h3⟩:=ofG_all keyR ls
  have hn:=chain_ne mR_ok rs h
  have hk:(rs.Pairwise fun x y=>cmpR x y≠0)↔ls.Pairwise fun a b=>keyR a≠keyR b:=by
    rw [pair_symm mR_ok hp]
    constructor
    · exact fun q=>q.imp_of_mem fun {a b} ha hb q e=>q ((keyR_eq (ho a ha) (ho b hb)).mpr e)
    · exact fun q=>q.imp_of_mem fun {a b} ha hb q e=>q ((keyR_eq (ho a ha) (ho b hb)).mp e)
  rw [hk,← h3] at hn
  constructor
  · cases hq:(ofG keyR ls).2 with
    | false=>exact hn.mpr hq
    | true =>
      cases hc:chainB (fun x y=>!(cmpR x y == 0)) rs with
      | false=>rfl
      | true=>rw [hn.mp hc] at hq;cases hq
  · intro hq
    exact rise_uniq mR_ok (hp.trans h1.symm) h (h2.imp_of_mem fun {a b} ha hb q e=>by have:=(keyR_lt (ho b (h1.mem_iff.mp hb)) (ho a (h1.mem_iff.mp ha))).mp e;omega) (hn.mpr hq)
theorem of_same (sz:Int) {gs cs:List MC} {ls rs:List MR} (hp1:cs.Perm gs) (h1:RiseC cs) (hp2:rs.Perm ls) (h2:RiseR rs):ofE sz gs ls cs rs=ofR sz gs ls:=by
  unfold ofE ofR
  cases hv:(sizeB sz && (gs.all okC && ls.all okR)) with
  | false=>rfl
  | true =>
    simp only [Bool.and_eq_true] at hv
    have ho:=List.all_eq_true.mp hv.2.2
    rw [if_pos rfl,if_pos rfl]
    cases (decide (gs.length≤256) && decide (ls.length≤500)) with
    | false=>rfl
    | true =>
      rw [if_pos rfl,if_pos rfl]
      obtain ⟨a1,a2⟩:=ofC_same hp1 h1
      obtain ⟨b1,b2⟩:=ofRR_same ho hp2 h2
      rw [a1,b1]
      cases hq:(ofG keyC gs).2 with
      | true=>rfl
      | false =>
        cases hr:(ofG keyR ls).2 with
        | true=>rfl
        | false=>rw [a2 hq,b2 hr];rfl
theorem ofR_len (sz:Int) (gs:List MC) (ls:List MR):(ofR sz gs ls).2.1.length≤gs.length∧(ofR sz gs ls).2.2.1.length≤ls.length:=by
  unfold ofR
  split
  · split
    · split
      · simp
      · exact ⟨Nat.le_of_eq (ofG_all keyC gs).1.length_eq,Nat.le_of_eq (ofG_all keyR ls).1.length_eq⟩
    · simp
  · simp
end Go.Proofs.YtoemkemmiikhlaaGreat.PF4
