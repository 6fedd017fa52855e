import Derived.Test.YtoemkemmiikhlaaGreatMetC
set_option linter.unusedVariables false
set_option linter.unusedSimpArgs false
set_option linter.unusedSectionVars false
namespace Go.Proofs.YtoemkemmiikhlaaGreat.PF4
open Go.RowKit Go.Proofs.YtoemkemmiikhlaaGreatW.PrintWords Go.Proofs.YtoemkemmiikhlaaGreatW.PrintLast Go.Proofs.YtoemkemmiikhlaaGreatW.PrintMore
theorem bsf_spec (p : Nat → Bool) (N : Nat) (mono : ∀ i j, i ≤ j → j < N → p j = true → p i = true) : ∀ (d i j : Nat), j - i ≤ d → i ≤ j → j ≤ N → (∀ k, k < i → p k = true) → (∀ k, j ≤ k → k < N → p k = false) → (i ≤ bsf p d i j ∧ bsf p d i j ≤ j) ∧ (∀ k, k < bsf p d i j → p k = true) ∧ (∀ k, bsf p d i j ≤ k → k < N → p k = false)
  | 0,i,j,hd,hij,hN,h1,h2=>by
    obtain rfl:i=j:=by omega
    exact ⟨⟨Nat.le_refl _,Nat.le_refl _⟩,h1,h2⟩
  | d+1,i,j,hd,hij,hN,h1,h2=>by
    rw [bsf]
    by_cases h:i<j
    · rw [if_pos h]
      cases hp:p ((i+j) / 2) with
      | true =>
        rw [if_pos rfl]
        obtain ⟨⟨a,b⟩,c,e⟩:=bsf_spec p N mono d ((i+j) / 2+1) j (by omega) (by omega) hN (fun k hk=>mono k ((i+j) / 2) (by omega) (by omega) hp) h2
        exact ⟨⟨by omega,b⟩,c,e⟩
      | false =>
        rw [if_neg (by simp)]
        obtain ⟨⟨a,b⟩,c,e⟩:=bsf_spec p N mono d i ((i+j) / 2) (by omega) (by omega) (by omega) h1 (fun k hk hkN=>by
          cases hq:p k with
          | false=>rfl
          | true=>rw [mono ((i+j) / 2) k hk hkN hq] at hp;cases hp)
        exact ⟨⟨a,by omega⟩,c,e⟩
    · rw [if_neg h]
      obtain rfl:i=j:=by omega
      exact ⟨⟨Nat.le_refl _,Nat.le_refl _⟩,h1,h2⟩
section
variable {α:Type} {cf:α→α→Int}
theorem bs_finds (hc:Cmp cf) (z:α) (l:List α) (hs:l.Pairwise fun x y=>cf x y<0) (t x:α) (hx:x∈l) (he:cf x t=0):bsf (fun h=>decide (cf (l.getD h z) t<0)) l.length 0 l.length<l.length∧l.getD (bsf (fun h=>decide (cf (l.getD h z) t<0)) l.length 0 l.length) z=x:=by
  have hg : ∀ h (hh:h<l.length),l.getD h z=l[h]:=fun h hh=>by rw [List.getD_eq_getElem?_getD,List.getElem?_eq_getElem hh];rfl
  have hlt:=List.pairwise_iff_getElem.mp hs
  obtain ⟨j,hj,ej⟩:=List.getElem_of_mem hx
  obtain ⟨⟨-,h0⟩,h1,h2⟩:=bsf_spec (fun h=>decide (cf (l.getD h z) t<0)) l.length (fun i j hij hj hp=>by
    simp only [decide_eq_true_eq] at hp ⊢
    rw [hg j hj] at hp
    rw [hg i (by omega)]
    rcases Nat.lt_or_ge i j with h|h
    · exact hc.strict _ _ _ (hlt i j (by omega) hj h) (hc.asym _ _ hp)
    · obtain rfl:i=j:=by omega
      exact hp) l.length 0 l.length (by omega) (by omega) (Nat.le_refl _) (fun k hk=>absurd hk (by omega)) (fun k hk hk2=>absurd hk2 (by omega))
  generalize bsf (fun h=>decide (cf (l.getD h z) t<0)) l.length 0 l.length=r at *
  have hrj:r≤j:=by
    rcases Nat.lt_or_ge j r with h|h
    · have:=h1 j h
      simp only [decide_eq_true_eq] at this
      rw [hg j hj,ej] at this
      omega
    · exact h
  have hrl:r<l.length:=by omega
  refine ⟨hrl,?_⟩
  rw [hg r hrl]
  rcases Nat.lt_or_ge r j with h|h
  · have h3:=h2 r (Nat.le_refl _) hrl
    simp only [decide_eq_false_iff_not] at h3
    rw [hg r hrl] at h3
    have h4:=hlt r j hrl hj h
    rw [ej] at h4
    have h5:cf l[r] t<0:=hc.strict _ _ _ h4 (hc.eqn _ _ he)
    exact absurd h5 h3
  · obtain rfl:r=j:=by omega
    exact ej
end
theorem rdCnat (l:List MC) (h:Nat):rd_T50 l (h:Int)=l.getD h ⟨0,0,0,0⟩:=by unfold rd_T50;rw [Int.toNat_natCast] <;> rfl
theorem rdRnat (l:List MR) (h:Nat):rd_T45 l (h:Int)=l.getD h ⟨0,0,0,0⟩:=by unfold rd_T45;rw [Int.toNat_natCast] <;> rfl
theorem strictC {cs:List MC} (h:chainB lessC cs=true):cs.Pairwise fun x y=>cmpC x y<0:=(chain_less mC_ok cs).mp h
theorem strictR {rs:List MR} (h:chainB lessR rs=true):rs.Pairwise fun x y=>cmpR x y<0:=(chain_less mR_ok rs).mp h
theorem valid_strict {sz:Int} {cs:List MC} {rs:List MR} (h:validM sz cs rs=true):(cs.Pairwise fun x y=>cmpC x y<0)∧(rs.Pairwise fun x y=>cmpR x y<0):=by
  unfold validM validR at h
  simp only [Bool.and_eq_true,decide_eq_true_eq] at h
  exact ⟨strictC h.2.2.2.1,strictR h.2.2.2.2.2.2⟩
theorem find_there {sz:Int} {cs:List MC} {rs:List MR} (hv:validM sz cs rs=true) {c:MC} (hc:c∈cs):findM sz cs rs c.f0=(c,0):=by
  obtain ⟨h1,h2⟩:=bs_finds mC_ok (⟨0,0,0,0⟩:MC) cs (valid_strict hv).1 ⟨c.f0,0,0,0⟩ c hc ((mC_eq _ _).mpr rfl)
  have hb:bsRC cmpC cs ⟨c.f0,0,0,0⟩=bsf (fun h=>decide (cmpC (cs.getD h ⟨0,0,0,0⟩) ⟨c.f0,0,0,0⟩<0)) cs.length 0 cs.length:=by
    unfold bsRC
    congr 1
  unfold findM
  rw [hv,if_pos rfl,hb,rdCnat,h2,decide_eq_true h1,if_pos]
  simp only [Bool.true_and,beq_iff_eq]
  all_goals exact (mC_eq _ _).mpr rfl
theorem find_none {sz:Int} {cs:List MC} {rs:List MR} (hv:validM sz cs rs=true) (n:Int) (hn : ∀ c∈cs,c.f0≠n):findM sz cs rs n=(⟨0,0,0,0⟩,4):=by
  unfold findM
  rw [hv,if_pos rfl,if_neg]
  simp only [Bool.and_eq_true,decide_eq_true_eq,beq_iff_eq]
  rintro ⟨h1,h2⟩
  rw [rdCnat,List.getD_eq_getElem?_getD,List.getElem?_eq_getElem h1] at h2
  exact hn _ (List.getElem_mem h1) ((mC_eq _ _).mp h2)
theorem rule_there {sz:Int} {cs:List MC} {rs:List MR} (hv:validM sz cs rs=true) {r:MR} (hr:r∈rs):ruleM sz cs rs r.f0 r.f1=(r,0):=by
  obtain ⟨h1,h2⟩:=bs_finds mR_ok (⟨0,0,0,0⟩:MR) rs (valid_strict hv).2 ⟨r.f0,r.f1,0,0⟩ r hr ((mR_eq _ _).mpr ⟨rfl,rfl⟩)
  have hb:bsRR cmpR rs ⟨r.f0,r.f1,0,0⟩=bsf (fun h=>decide (cmpR (rs.getD h ⟨0,0,0,0⟩) ⟨r.f0,r.f1,0,0⟩<0)) rs.length 0 rs.length:=by
    unfold bsRR
    congr 1
  have hq:ruleOfM rs r.f0 r.f1=(r,true):=by
    unfold ruleOfM
    rw [hb,rdRnat,h2,decide_eq_true h1,if_pos]
    simp only [Bool.true_and,beq_iff_eq]
    all_goals exact (mR_eq _ _).mpr ⟨rfl,rfl⟩
  unfold ruleM
  rw [hv,if_pos rfl,hq,if_pos rfl]
theorem rule_none {sz:Int} {cs:List MC} {rs:List MR} (hv:validM sz cs rs=true) (a b:Int) (hn : ∀ r∈rs,¬ (r.f0=a∧r.f1=b)):ruleM sz cs rs a b=(⟨0,0,0,0⟩,4):=by
  have hq:ruleOfM rs a b=(⟨0,0,0,0⟩,false):=by
    unfold ruleOfM
    rw [if_neg]
    simp only [Bool.and_eq_true,decide_eq_true_eq,beq_iff_eq]
    rintro ⟨h1,h2⟩
    rw [rdRnat,List.getD_eq_getElem?_getD,List.getElem?_eq_getElem h1] at h2
    exact hn _ (List.getElem_mem h1) ((mR_eq _ _).mp h2)
  unfold ruleM
  rw [hv,if_pos rfl,hq,if_neg (by simp)]
theorem all_perm {α:Type} (p:α→Bool) {l1 l2:List α} (h:l1.Perm l2):l1.all p=l2.all p:=by
  rw [Bool.eq_iff_iff,List.all_eq_true,List.all_eq_true]
  exact ⟨fun h1 x hx=>h1 x (h.mem_iff.mpr hx),fun h1 x hx=>h1 x (h.mem_iff.mp hx)⟩
theorem of_perm (sz:Int) {gs gs':List MC} {ls ls':List MR} {cs cs':List MC} {rs rs':List MR} (hg:gs.Perm gs') (hl:ls.Perm ls') (h1:cs.Perm gs) (h2:RiseC cs) (h3:rs.Perm ls) (h4:RiseR rs) (k1:cs'.Perm gs') (k2:RiseC cs') (k3:rs'.Perm ls') (k4:RiseR rs'):ofE sz gs ls cs rs=ofE sz gs' ls' cs' rs':=by
  have pc:cs.Perm cs':=h1.trans (hg.trans k1.symm)
  have pr:rs.Perm rs':=h3.trans (hl.trans k3.symm)
  unfold ofE
  rw [all_perm okC hg,all_perm okR hl,hg.length_eq,hl.length_eq,chain_perm mC_ok pc h2 k2,chain_perm mR_ok pr h4 k4]
  by_cases hc:(chainB (fun x y=>!(cmpC x y == 0)) cs' && chainB (fun x y=>!(cmpR x y == 0)) rs')=true
  · rw [Bool.and_eq_true] at hc
    rw [rise_uniq mC_ok pc h2 k2 (by rw [chain_perm mC_ok pc h2 k2];exact hc.1),rise_uniq mR_ok pr h4 k4 (by rw [chain_perm mR_ok pr h4 k4];exact hc.2)]
  · rw [if_neg hc,if_neg hc]
theorem merge_comm (sz:Int) (ca:List MC) (ra:List MR) (sz2:Int) (cb:List MC) (rb:List MR) {cs cs':List MC} {rs rs':List MR} (h1:cs.Perm (ca++cb)) (h2:RiseC cs) (h3:rs.Perm (ra++rb)) (h4:RiseR rs) (k1:cs'.Perm (cb++ca)) (k2:RiseC cs') (k3:rs'.Perm (rb++ra)) (k4:RiseR rs'):mergeE sz ca ra sz2 cb rb cs rs=mergeE sz2 cb rb sz ca ra cs' rs':=by
  have pc:cs.Perm cs':=h1.trans (List.perm_append_comm.trans k1.symm)
  have pr:rs.Perm rs':=h3.trans (List.perm_append_comm.trans k3.symm)
  unfold mergeE
  rw [Bool.and_comm (validM sz ca ra),chain_perm mC_ok pc h2 k2,chain_perm mR_ok pr h4 k4]
  by_cases hs:sz=sz2
  · subst hs
    by_cases hc:(chainB (fun x y=>!(cmpC x y == 0)) cs' && chainB (fun x y=>!(cmpR x y == 0)) rs')=true
    · rw [Bool.and_eq_true] at hc
      rw [rise_uniq mC_ok pc h2 k2 (by rw [chain_perm mC_ok pc h2 k2];exact hc.1),rise_uniq mR_ok pr h4 k4 (by rw [chain_perm mR_ok pr h4 k4];exact hc.2)]
    · rw [if_neg hc,if_neg hc]
  · have e1:(sz == sz2)=false:=by simpa using hs
    have e2:(sz2 == sz)=false:=by simpa using fun e=>hs e.symm
    rw [e1,e2]
    simp only [Bool.false_eq_true,if_false]
theorem merge_exists (ca cb:List MC) (ra rb:List MR) : ∃ cs rs,(cs.Perm (ca++cb)∧RiseC cs)∧(rs.Perm (ra++rb)∧RiseR rs):=by
  obtain ⟨cs,h1,h2⟩:=exists_rise mC_ok (ca++cb)
  obtain ⟨rs,h3,h4⟩:=exists_rise mR_ok (ra++rb)
  exact ⟨cs,rs,⟨h1,h2⟩,h3,h4⟩
theorem merge_ways (sz:Int) (ca:List MC) (ra:List MR) (sz2:Int) (cb:List MC) (rb:List MR) (cs:List MC) (rs:List MR):(∃ e,e≠0∧mergeE sz ca ra sz2 cb rb cs rs=(0,[],[],e))∨(mergeE sz ca ra sz2 cb rb cs rs=(sz,cs,rs,0)∧validM sz ca ra=true∧validM sz2 cb rb=true∧validM sz cs rs=true):=by
  unfold mergeE
  split
  · rename_i h1
    rw [Bool.and_eq_true] at h1
    split
    · split
      · split
        · rename_i h4
          exact .inr ⟨rfl,h1.1,h1.2,h4⟩
        · exact .inl ⟨3,by decide,rfl⟩
      · exact .inl ⟨14,by decide,rfl⟩
    · exact .inl ⟨5,by decide,rfl⟩
  · exact .inl ⟨2,by decide,rfl⟩
end Go.Proofs.YtoemkemmiikhlaaGreat.PF4
