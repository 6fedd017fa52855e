import Derived.Test.YtoemkemmiikhlaaGreatLibOf
import Derived.Test.YtoemkemmiikhlaaGreatPF4x15
import Derived.Test.YtoemkemmiikhlaaGreatPF4x21
set_option linter.unusedVariables false
set_option linter.unusedSectionVars false
set_option linter.unusedSimpArgs false
namespace Go.Proofs.YtoemkemmiikhlaaGreat.PF4
open Go.RowKit Go.Proofs.YtoemkemmiikhlaaGreatW.PrintWords Go.Proofs.YtoemkemmiikhlaaGreatW.PrintLast Go.Proofs.YtoemkemmiikhlaaGreatW.PrintMore
theorem hitC_is (cb:List MC) (x:MC):hitC cb x=true↔∃ y∈cb,y.f0=x.f0:=by
  unfold hitC findL
  cases h:cb.find? fun c=>c.f0 == x.f0 with
  | none =>
    constructor
    · intro h1
      exact absurd h1 (by decide)
    · rintro ⟨y,hy,e⟩
      exact absurd (beq_iff_eq.mpr e) (List.find?_eq_none.mp h y hy)
  | some c=>exact ⟨fun _=>⟨c,List.mem_of_find?_eq_some h,by simpa using List.find?_some h⟩,fun _=>rfl⟩
theorem hitR_is (rb:List MR) (x:MR):hitR rb x=true↔∃ y∈rb,y.f0=x.f0∧y.f1=x.f1:=by
  unfold hitR forL
  cases h:rb.find? fun c=>c.f0 == x.f0 && c.f1 == x.f1 with
  | none =>
    constructor
    · intro h1
      exact absurd h1 (by simp)
    · rintro ⟨y,hy,e⟩
      exact absurd (by simp [e.1,e.2]) (List.find?_eq_none.mp h y hy)
  | some c=>exact ⟨fun _=>⟨c,List.mem_of_find?_eq_some h,by simpa using List.find?_some h⟩,fun _=>rfl⟩
theorem chainC_is {ca cb c3:List MC} (hp:c3.Perm (ca++cb)) (h:RiseC c3) (ha:ca.Pairwise fun x y=>cmpC x y<0) (hb:cb.Pairwise fun x y=>cmpC x y<0):chainB (fun x y=>!(cmpC x y == 0)) c3 = !ca.any (hitC cb):=by
  have h1:=chain_ne mC_ok c3 h
  rw [pair_symm mC_ok hp,List.pairwise_append] at h1
  cases hq:ca.any (hitC cb) with
  | false=>exact h1.mpr ⟨ne_of_strict mC_ok ha,ne_of_strict mC_ok hb,fun x hx y hy e=>List.any_eq_false.mp hq x hx ((hitC_is cb x).mpr ⟨y,hy,((mC_eq x y).mp e).symm⟩)⟩
  | true =>
    obtain ⟨x,hx,hh⟩:=List.any_eq_true.mp hq
    obtain ⟨y,hy,e⟩:=(hitC_is cb x).mp hh
    cases hc:chainB (fun x y=>!(cmpC x y == 0)) c3 with
    | false=>rfl
    | true=>exact absurd ((mC_eq x y).mpr e.symm) ((h1.mp hc).2.2 x hx y hy)
theorem chainR_is {ra rb r3:List MR} (hp:r3.Perm (ra++rb)) (h:RiseR r3) (ha:ra.Pairwise fun x y=>cmpR x y<0) (hb:rb.Pairwise fun x y=>cmpR x y<0):chainB (fun x y=>!(cmpR x y == 0)) r3 = !ra.any (hitR rb):=by
  have h1:=chain_ne mR_ok r3 h
  rw [pair_symm mR_ok hp,List.pairwise_append] at h1
  cases hq:ra.any (hitR rb) with
  | false=>exact h1.mpr ⟨ne_of_strict mR_ok ha,ne_of_strict mR_ok hb,fun x hx y hy e=>List.any_eq_false.mp hq x hx ((hitR_is rb x).mpr ⟨y,hy,((mR_eq x y).mp e).1.symm,((mR_eq x y).mp e).2.symm⟩)⟩
  | true =>
    obtain ⟨x,hx,hh⟩:=List.any_eq_true.mp hq
    obtain ⟨y,hy,e⟩:=(hitR_is rb x).mp hh
    cases hc:chainB (fun x y=>!(cmpR x y == 0)) r3 with
    | false=>rfl
    | true=>exact absurd ((mR_eq x y).mpr ⟨e.1.symm,e.2.symm⟩) ((h1.mp hc).2.2 x hx y hy)
theorem merge_same (sz:Int) (ca:List MC) (ra:List MR) (sz2:Int) (cb:List MC) (rb:List MR) {c3:List MC} {r3:List MR} (h1:c3.Perm (ca++cb)) (h2:RiseC c3) (h3:r3.Perm (ra++rb)) (h4:RiseR r3):mergeE sz ca ra sz2 cb rb c3 r3=mergeW sz ca ra sz2 cb rb:=by
  unfold mergeE mergeW
  cases hv:(validM sz ca ra && validM sz2 cb rb) with
  | false=>rfl
  | true =>
    rw [if_pos rfl,if_pos rfl]
    by_cases hs:sz=sz2
    · subst hs
      rw [if_pos (beq_self_eq_true sz),if_pos rfl]
      rw [Bool.and_eq_true] at hv
      have sa:=valid_strict hv.1
      have sb:=valid_strict hv.2
      have e1:=chainC_is h1 h2 sa.1 sb.1
      have e2:=chainR_is h3 h4 sa.2 sb.2
      have va:=hv.1
      have vb:=hv.2
      unfold validM validR at va vb
      simp only [Bool.and_eq_true] at va vb
      rw [e1,e2,← of_same sz h1 h2 h3 h4]
      cases ha:ca.any (hitC cb) with
      | true=>rfl
      | false =>
        cases hr:ra.any (hitR rb) with
        | true=>rfl
        | false =>
          rw [ha] at e1
          rw [hr] at e2
          have k1:chainB lessC c3=true:=(chain_less mC_ok c3).mpr (strict_of mC_ok h2 ((chain_ne mC_ok c3 h2).mp e1))
          have k2:chainB lessR r3=true:=(chain_less mR_ok r3).mpr (strict_of mR_ok h4 ((chain_ne mR_ok r3 h4).mp e2))
          have k3:(ca++cb).all okC=true:=by rw [List.all_append,va.2.2.1,vb.2.2.1];rfl
          have k4:(ra++rb).all okR=true:=by rw [List.all_append,va.2.2.2.2.2.1,vb.2.2.2.2.2.1];rfl
          have k5:validM sz c3 r3=(decide ((ca++cb).length≤256) && decide ((ra++rb).length≤500)):=by
            unfold validM validR
            rw [va.1,all_perm okC h1,k3,k1,all_perm okR h3,k4,k2,h1.length_eq,h3.length_eq]
            simp
          unfold ofE
          rw [e1,e2,k5,va.1,k3,k4]
          cases (decide ((ca++cb).length≤256) && decide ((ra++rb).length≤500)) <;> rfl
    · rw [if_neg (by simpa using hs),if_neg hs]
theorem mergeW_len (sz:Int) (ca:List MC) (ra:List MR) (sz2:Int) (cb:List MC) (rb:List MR):(mergeW sz ca ra sz2 cb rb).2.1.length≤ca.length+cb.length∧(mergeW sz ca ra sz2 cb rb).2.2.1.length≤ra.length+rb.length:=by
  have:=ofR_len sz (ca++cb) (ra++rb)
  rw [List.length_append,List.length_append] at this
  unfold mergeW
  split
  · split
    · split
      · simp
      · exact this
    · simp
  · simp
end Go.Proofs.YtoemkemmiikhlaaGreat.PF4
