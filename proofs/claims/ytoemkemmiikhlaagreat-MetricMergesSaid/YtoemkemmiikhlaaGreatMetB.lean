import Derived.Test.YtoemkemmiikhlaaGreatMetA
set_option linter.unusedVariables false
set_option linter.unusedSimpArgs false
set_option linter.unusedSectionVars false
namespace Go.Proofs.YtoemkemmiikhlaaGreat.PF4
open Go.RowKit Go.Proofs.YtoemkemmiikhlaaGreatW.PrintWords Go.Proofs.YtoemkemmiikhlaaGreatW.PrintLast Go.Proofs.YtoemkemmiikhlaaGreatW.PrintMore
theorem comp_inv (d : Array Int) (hs : ∀ i j, i ≤ j → j < d.size → d[i]! ≤ d[j]!) : ∀ m, m ≤ d.size → (Lib.compactUpTo d m).Pairwise (· < ·) ∧ (∀ x, x ∈ Lib.compactUpTo d m ↔ ∃ j, j < m ∧ d[j]! = x) ∧ (Lib.compactUpTo d m).length ≤ m
  | 0,_=>by simp [Lib.compactUpTo]
  | m+1,hm=>by
    obtain ⟨h1,h2,h3⟩:=comp_inv d hs m (by omega)
    rw [Lib.compactUpTo_succ]
    by_cases hk:Lib.keeps d m=true
    · rw [if_pos hk]
      refine ⟨?_,?_,by rw [List.length_append];simp;omega⟩
      · rw [List.pairwise_append]
        refine ⟨h1,List.pairwise_singleton _ _,fun a ha b hb=>?_⟩
        obtain rfl:=List.mem_singleton.mp hb
        obtain ⟨j,hj,rfl⟩:=(h2 a).mp ha
        have h5:=hs j (m-1) (by omega) (by omega)
        have h6:=hs (m-1) m (by omega) (by omega)
        have h7:d[m]!≠d[m-1]!:=by
          intro e
          rw [Lib.keeps_neg (by omega) e] at hk
          cases hk
        omega
      · intro x
        rw [List.mem_append,h2,List.mem_singleton]
        constructor
        · rintro (⟨j,hj,e⟩|rfl)
          · exact ⟨j,by omega,e⟩
          · exact ⟨m,by omega,rfl⟩
        · rintro ⟨j,hj,e⟩
          rcases Nat.lt_or_ge j m with h|h
          · exact .inl ⟨j,h,e⟩
          · obtain rfl:j=m:=by omega
            exact .inr e.symm
    · rw [if_neg hk,List.append_nil]
      have hm0:0<m:=by
        rcases Nat.eq_zero_or_pos m with h|h
        · subst h;exact absurd (Lib.keeps_lt_one d 0 (by omega)) hk
        · exact h
      have he:d[m]! = d[m-1]!:=by
        by_cases e:d[m]! = d[m-1]!
        · exact e
        · exact absurd (Lib.keeps_pos e) hk
      refine ⟨h1,fun x=>?_,by omega⟩
      rw [h2]
      constructor
      · rintro ⟨j,hj,e⟩;exact ⟨j,by omega,e⟩
      · rintro ⟨j,hj,e⟩
        rcases Nat.lt_or_ge j m with h|h
        · exact ⟨j,h,e⟩
        · obtain rfl:j=m:=by omega
          exact ⟨j-1,by omega,by rw [← he];exact e⟩
theorem tabB_ok (l:List Int):(tabB l).Pairwise (· < ·)∧(∀ x,x∈tabB l↔x∈l)∧(tabB l).length≤l.length:=by
  unfold tabB
  have hp:=List.pairwise_mergeSort (le:=fun x y:Int=>decide (x≤y)) (fun a b c h1 h2=>by simp only [decide_eq_true_eq] at *;omega) (fun a b=>by simp only [Bool.or_eq_true,decide_eq_true_eq];omega) l
  have hm:=List.mergeSort_perm l (fun x y:Int=>decide (x≤y))
  generalize l.mergeSort (fun x y=>decide (x≤y))=z at hp hm
  have hs : ∀ i j,i≤j→j<z.toArray.size→z.toArray[i]!≤z.toArray[j]!:=by
    intro i j hij hj
    have hjl:j<z.length:=by simpa using hj
    rw [getElem!_pos z.toArray i (by simp;omega),getElem!_pos z.toArray j (by simpa using hjl)]
    simp only [List.getElem_toArray]
    rcases Nat.lt_or_ge i j with h|h
    · have:=List.pairwise_iff_getElem.mp hp i j (by omega) hjl h
      simpa using this
    · obtain rfl:i=j:=by omega
      exact Int.le_refl _
  obtain ⟨h1,h2,h3⟩:=comp_inv z.toArray hs z.length (by simp)
  unfold Lib.compact
  refine ⟨h1,fun x=>?_,by rw [← hm.length_eq];exact h3⟩
  rw [h2,← hm.mem_iff]
  constructor
  · rintro ⟨j,hj,rfl⟩
    rw [getElem!_pos z.toArray j (by simpa using hj)]
    simp
  · intro hx
    obtain ⟨j,hj,e⟩:=List.getElem_of_mem hx
    exact ⟨j,hj,by rw [getElem!_pos z.toArray j (by simpa using hj)];simpa using e⟩
theorem idxB_at : ∀ (t : List Int) (x : Int), t.Pairwise (· < ·) → x ∈ t → idxB t x < t.length ∧ t.getD (idxB t x) 0 = x
  | [],x,_,h=>by cases h
  | y::t,x,hp,h=>by
    obtain ⟨h1,h2⟩:=List.pairwise_cons.mp hp
    unfold idxB
    rcases List.mem_cons.mp h with rfl|hx
    · have h0:(x::t).countP (fun y=>decide (y<x))=0:=by
        rw [List.countP_eq_zero]
        intro z hz
        rcases List.mem_cons.mp hz with rfl|hz
        · simp
        · have:=h1 z hz
          simp;omega
      rw [h0]
      exact ⟨by simp,rfl⟩
    · obtain ⟨i1,i2⟩:=idxB_at t x h2 hx
      have hlt:=h1 x hx
      rw [List.countP_cons_of_pos (by simpa using hlt)]
      unfold idxB at i1 i2
      exact ⟨by simp;omega,by simpa using i2⟩
theorem take_exact (n:Nat) (l t:List Int) (b:Bool) (h:l.length=n):takeB n (l++t,b)=(l,(t,b)):=by
  unfold takeB
  simp only
  rw [if_neg (by rw [List.length_append];omega),List.take_left' h,List.drop_left' h]
theorem rd1_is (n:Int) (t:List Int) (b:Bool) (h:0≤n∧n<256):rd1 (be1 n++t,b)=(n,(t,b)):=by
  unfold rd1
  rw [take_exact 1 _ _ _ rfl]
  simp only [be1,numB,List.foldl]
  rw [show (0:Int)*256+n % 256=n by omega]
theorem rd2_is (n:Int) (t:List Int) (b:Bool) (h:0≤n∧n<65536):rd2 (be2 n++t,b)=(n,(t,b)):=by
  unfold rd2
  rw [take_exact 2 _ _ _ rfl]
  simp only [be2,numB,List.foldl]
  rw [show ((0:Int)*256+n / 256 % 256)*256+n % 256=n by omega]
theorem rd4_is (n:Int) (t:List Int) (b:Bool) (h : -2147483648≤n∧n<2147483648):rd4 (be4 n++t,b)=(n,(t,b)):=by
  unfold rd4
  rw [take_exact 4 _ _ _ rfl]
  simp only [be4,numB,List.foldl,s32]
  rw [show (if (((0*256+n / 16777216 % 256)*256+n / 65536 % 256)*256+n / 256 % 256)*256+n % 256<2147483648 then (((0*256+n / 16777216 % 256)*256+n / 65536 % 256)*256+n / 256 % 256)*256+n % 256 else (((0*256+n / 16777216 % 256)*256+n / 65536 % 256)*256+n / 256 % 256)*256+n % 256-4294967296)=n by split <;> omega]
def I32 (n:Int):Prop:=-2147483648≤n∧n<2147483648
theorem rdTab_is : ∀ (l t : List Int), (∀ x ∈ l, I32 x) → rdTab l.length (l.flatMap be4 ++ t, false) = (l, (t, false))
  | [],t,_=>rfl
  | x::l,t,h=>by
    rw [List.length_cons,rdTab,if_neg (by simp),List.flatMap_cons,List.append_assoc,rd4_is x _ _ (h x (List.mem_cons_self ..))]
    simp only
    rw [rdTab_is l t (fun y hy=>h y (List.mem_cons_of_mem _ hy))]
theorem rdT_is (l t:List Int) (hl:l.length<65536) (h : ∀ x∈l,I32 x):rdT (tabBytes l++t,false)=(l,(t,false)):=by
  unfold rdT tabBytes
  rw [List.append_assoc,rd2_is _ _ _ (by omega)]
  simp only [Int.toNat_natCast]
  exact rdTab_is l t h
theorem rdTs_is (T : Nat → List Int) (hT : ∀ j, (T j).length < 65536 ∧ ∀ x ∈ T j, I32 x) : ∀ (n : Nat) (t : List Int), (∀ j, j < n → (rdTs n ((List.range n).flatMap (fun j => tabBytes (T j)) ++ t, false)).1 j = T j) ∧ (rdTs n ((List.range n).flatMap (fun j => tabBytes (T j)) ++ t, false)).2 = (t, false)
  | 0,t=>⟨fun j hj=>absurd hj (by omega),rfl⟩
  | n+1,t=>by
    have ih:=rdTs_is T hT n (tabBytes (T n)++t)
    rw [List.range_succ,List.flatMap_append,List.flatMap_cons,List.flatMap_nil,List.append_nil,List.append_assoc,rdTs]
    have h2:=rdT_is (T n) t (hT n).1 (hT n).2
    rw [ih.2,h2]
    refine ⟨fun j hj=>?_,rfl⟩
    simp only [oneMore]
    by_cases h:j=n
    · rw [if_pos h,h]
    · rw [if_neg h]
      exact ih.1 j (by omega)
theorem atB_is (l:List Int) (i:Nat) (t:List Int) (hl:l.length<65536) (hi:i<l.length):atB l (be2 (i:Int)++t,false)=(l.getD i 0,(t,false)):=by
  unfold atB
  rw [rd2_is _ _ _ (by omega)]
  simp only
  rw [if_pos (by omega)]
  rfl
def CharOK (T:Nat→List Int) (c:MC):Prop:=(0≤c.f0∧c.f0<256)∧∀ j,j<3→idxB (T j) (dimF j c)<(T j).length∧(T j).getD (idxB (T j) (dimF j c)) 0=dimF j c
def charT (T:Nat→List Int) (c:MC):List Int:=be1 c.f0++(List.range 3).flatMap fun j=>be2 (idxB (T j) (dimF j c))
theorem rdChar_is (T U:Nat→List Int) (hU : ∀ j,j<3→U j=T j) (hT : ∀ j,(T j).length<65536) (c:MC) (t:List Int) (h:CharOK T c):rdChar U (charT T c++t,false)=(c,(t,false)):=by
  obtain ⟨h0,h1⟩:=h
  unfold charT rdChar
  simp only [List.range,List.range.loop,List.flatMap_cons,List.flatMap_nil,List.append_nil,List.append_assoc]
  rw [rd1_is _ _ _ h0]
  simp only
  rw [hU 0 (by omega),hU 1 (by omega),hU 2 (by omega),atB_is _ _ _ (hT 0) (h1 0 (by omega)).1]
  simp only
  rw [atB_is _ _ _ (hT 1) (h1 1 (by omega)).1]
  simp only
  rw [atB_is _ _ _ (hT 2) (h1 2 (by omega)).1]
  simp only [(h1 0 (by omega)).2,(h1 1 (by omega)).2,(h1 2 (by omega)).2]
  rfl
theorem rdChars_is (T U : Nat → List Int) (hU : ∀ j, j < 3 → U j = T j) (hT : ∀ j, (T j).length < 65536) : ∀ (l : List MC) (t : List Int), (∀ c ∈ l, CharOK T c) → rdChars U l.length (l.flatMap (charT T) ++ t, false) = (l, (t, false))
  | [],t,_=>rfl
  | c::l,t,h=>by
    rw [List.length_cons,rdChars,if_neg (by simp),List.flatMap_cons,List.append_assoc,rdChar_is T U hU hT c _ (h c (List.mem_cons_self ..))]
    simp only
    rw [rdChars_is T U hU hT l t (fun y hy=>h y (List.mem_cons_of_mem _ hy))]
def RuleOK (r:MR):Prop:=(0≤r.f0∧r.f0<256)∧(0≤r.f1∧r.f1<256)∧(0≤r.f2∧r.f2<256)∧I32 r.f3
theorem rdRule_is (r:MR) (t:List Int) (h:RuleOK r):rdRule (ruleB r++t,false)=(r,(t,false)):=by
  obtain ⟨h0,h1,h2,h3⟩:=h
  unfold ruleB rdRule
  simp only [List.append_assoc]
  rw [rd1_is _ _ _ h0]
  simp only
  rw [rd1_is _ _ _ h1]
  simp only
  rw [rd1_is _ _ _ h2]
  simp only
  rw [rd4_is _ _ _ h3]
theorem rdRules_is : ∀ (l : List MR) (t : List Int), (∀ r ∈ l, RuleOK r) → rdRules l.length (l.flatMap ruleB ++ t, false) = (l, (t, false))
  | [],t,_=>rfl
  | c::l,t,h=>by
    rw [List.length_cons,rdRules,if_neg (by simp),List.flatMap_cons,List.append_assoc,rdRule_is c _ (h c (List.mem_cons_self ..))]
    simp only
    rw [rdRules_is l t (fun y hy=>h y (List.mem_cons_of_mem _ hy))]
theorem okC_coord {c:MC} (h:okC c=true):(0≤c.f0∧c.f0<256)∧∀ j,-268435455≤dimF j c∧dimF j c≤268435455:=by
  unfold okC codeB coordB at h
  simp only [Bool.and_eq_true,decide_eq_true_eq] at h
  refine ⟨by omega,fun j=>?_⟩
  rcases j with _|_|j
  · simp only [dimF];omega
  · simp only [dimF];omega
  · simp only [dimF];omega
theorem okR_rule {r:MR} (h:okR r=true):RuleOK r:=by
  unfold okR codeB coordB at h
  simp only [Bool.and_eq_true,decide_eq_true_eq] at h
  unfold RuleOK I32
  by_cases h0:r.f2=0
  · rw [if_pos h0] at h
    simp only [Bool.and_eq_true,decide_eq_true_eq] at h
    omega
  · rw [if_neg h0] at h
    simp only [Bool.and_eq_true,decide_eq_true_eq] at h
    omega
theorem parse_file (sz:Int) (cs:List MC) (rs:List MR) (t:List Int) (hv:validM sz cs rs=true):parseB (bodyB sz cs rs++t)=(sz,cs,rs,false):=by
  unfold validM validR sizeB at hv
  simp only [Bool.and_eq_true,decide_eq_true_eq] at hv
  obtain ⟨hsz,hcl,hca,-,hrl,hra,-⟩:=hv
  have hC:=fun c hc=>okC_coord (List.all_eq_true.mp hca c hc)
  have hT : ∀ j,(tabJ cs j).length<65536∧∀ x∈tabJ cs j,I32 x:=by
    intro j
    obtain ⟨-,h2,h3⟩:=tabB_ok (cs.map (dimF j))
    rw [List.length_map] at h3
    refine ⟨by unfold tabJ;omega,fun x hx=>?_⟩
    obtain ⟨c,hc,rfl⟩:=List.mem_map.mp ((h2 x).mp hx)
    have:=(hC c hc).2 j
    unfold I32
    omega
  have hok : ∀ c∈cs,CharOK (tabJ cs) c:=fun c hc=>⟨(hC c hc).1,fun j _=>by
    obtain ⟨h1,h2,-⟩:=tabB_ok (cs.map (dimF j))
    exact idxB_at _ _ h1 ((h2 _).mpr (List.mem_map.mpr ⟨c,hc,rfl⟩))⟩
  unfold bodyB headB
  have hz:charB cs=charT (tabJ cs):=rfl
  rw [hz]
  simp only [List.append_assoc]
  unfold parseB
  rw [take_exact 4 magicB _ _ rfl]
  simp only
  rw [rd4_is _ _ _ (by omega)]
  simp only
  obtain ⟨h1,h2⟩:=rdTs_is (tabJ cs) hT 3 (be2 (cs.length:Int)++(cs.flatMap (charT (tabJ cs))++(be2 (rs.length:Int)++(rs.flatMap ruleB++t))))
  rw [h2]
  rw [rd2_is _ _ _ (by omega)]
  simp only [Int.toNat_natCast]
  rw [rdChars_is (tabJ cs) _ h1 (fun j=>(hT j).1) cs _ hok]
  simp only
  rw [rd2_is _ _ _ (by omega)]
  simp only [Int.toNat_natCast]
  rw [rdRules_is rs t (fun r hr=>okR_rule (List.all_eq_true.mp hra r hr))]
theorem open_is (b:List Int):openB b=if (parseB b).2.2.2=false∧validM (parseB b).1 (parseB b).2.1 (parseB b).2.2.1=true∧fileB (parseB b).1 (parseB b).2.1 (parseB b).2.2.1=b then ((parseB b).1,(parseB b).2.1,(parseB b).2.2.1,0) else (0,[],[],30):=by
  unfold openB
  simp only
  by_cases h:(parseB b).2.2.2=false∧validM (parseB b).1 (parseB b).2.1 (parseB b).2.2.1=true∧fileB (parseB b).1 (parseB b).2.1 (parseB b).2.2.1=b
  · rw [if_pos h,if_neg]
    simp [h.1,h.2.1,h.2.2]
  · rw [if_neg h,if_pos]
    by_cases h1:(parseB b).2.2.2=false
    · by_cases h2:validM (parseB b).1 (parseB b).2.1 (parseB b).2.2.1=true
      · have h3 : ¬ fileB (parseB b).1 (parseB b).2.1 (parseB b).2.2.1=b:=fun e=>h ⟨h1,h2,e⟩
        simp [h3]
      · simp [h2]
    · simp [h1]
theorem open_file (sz:Int) (cs:List MC) (rs:List MR) (hv:validM sz cs rs=true):openB (fileB sz cs rs)=(sz,cs,rs,0):=by
  have hp:=parse_file sz cs rs (be4 (sumB (bodyB sz cs rs))) hv
  rw [open_is]
  have hf:fileB sz cs rs=bodyB sz cs rs++be4 (sumB (bodyB sz cs rs)):=rfl
  rw [hf,hp]
  simp only
  rw [if_pos ⟨trivial,hv,hf⟩]
theorem open_only (b:List Int) (h:(openB b).2.2.2=0) : ∃ sz cs rs,validM sz cs rs=true∧b=fileB sz cs rs∧openB b=(sz,cs,rs,0):=by
  rw [open_is] at h ⊢
  by_cases hc:(parseB b).2.2.2=false∧validM (parseB b).1 (parseB b).2.1 (parseB b).2.2.1=true∧fileB (parseB b).1 (parseB b).2.1 (parseB b).2.2.1=b
  · exact ⟨_,_,_,hc.2.1,hc.2.2.symm,by rw [if_pos hc]⟩
  · rw [if_neg hc] at h
    cases h
end Go.Proofs.YtoemkemmiikhlaaGreat.PF4
