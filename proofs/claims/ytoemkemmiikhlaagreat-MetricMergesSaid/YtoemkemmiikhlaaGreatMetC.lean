import Derived.Test.YtoemkemmiikhlaaGreatMetB
set_option linter.unusedVariables false
set_option linter.unusedSimpArgs false
set_option linter.unusedSectionVars false
namespace Go.Proofs.YtoemkemmiikhlaaGreat.PF4
open Go.RowKit Go.Proofs.YtoemkemmiikhlaaGreatW.PrintWords Go.Proofs.YtoemkemmiikhlaaGreatW.PrintLast Go.Proofs.YtoemkemmiikhlaaGreatW.PrintMore
def sumZ : List Int → Int → Int
  | [],_=>0
  | c::l,i=>(i+1)*c+sumZ l (i+1)
theorem sumFrom_is : ∀ (l : List Int) (i s : Int), 0 ≤ s ∧ s < 4294967296 → sumFrom l i s = (s + sumZ l i) % 4294967296
  | [],i,s,h=>by simp only [sumFrom,sumZ];omega
  | c::l,i,s,h=>by
    rw [sumFrom,sumZ,sumFrom_is l (i+1) _ (by omega)]
    generalize (i+1)*c=p
    generalize sumZ l (i+1)=q
    omega
theorem sumB_is (l:List Int):sumB l=sumZ l 0 % 4294967296:=by
  unfold sumB
  rw [sumFrom_is l 0 0 (by omega)]
  congr 1
  omega
theorem sumZ_set : ∀ (l : List Int) (i : Int) (p : Nat) (b : Int) (h : p < l.length), sumZ (l.set p b) i = sumZ l i + (i + p + 1) * (b - l[p])
  | [],i,p,b,h=>absurd h (by simp)
  | c::l,i,0,b,h=>by
    rw [List.set_cons_zero,sumZ,sumZ]
    simp only [List.getElem_cons_zero]
    grind
  | c::l,i,p+1,b,h=>by
    rw [List.set_cons_succ,sumZ,sumZ,sumZ_set l (i+1) p b (by simpa using h)]
    simp only [List.getElem_cons_succ]
    have:((p+1:Nat):Int)=(p:Int)+1:=by omega
    rw [this]
    grind
theorem sumB_one (l:List Int) (p:Nat) (b:Int) (h:p<l.length) (hl:l.length≤1000000) (ha:0≤l[p]∧l[p]<256) (hb:0≤b∧b<256) (he:sumB (l.set p b)=sumB l):b=l[p]:=by
  rw [sumB_is,sumB_is,sumZ_set l 0 p b h] at he
  obtain ⟨d,hd⟩ : ∃ d,d=b-l[p]:=⟨_,rfl⟩
  obtain ⟨q,hq⟩ : ∃ q:Int,q=0+(p:Int)+1:=⟨_,rfl⟩
  rw [← hd,← hq] at he
  have h1:(q*d) % 4294967296=0:=by
    generalize q*d=z at he
    generalize sumZ l 0=s at he
    omega
  have hqr:1≤q∧q≤1000000:=by omega
  have hdr : -255≤d∧d≤255:=by omega
  have hup:q*d≤1000000*255:=by
    rcases Int.le_total 0 d with h|h
    · exact Int.mul_le_mul hqr.2 hdr.2 h (by omega)
    · have:=Int.mul_nonpos_of_nonneg_of_nonpos (a:=q) (b:=d) (by omega) h
      omega
  have hlo : -(1000000*255)≤q*d:=by
    rcases Int.le_total 0 d with h|h
    · have:=Int.mul_nonneg (a:=q) (b:=d) (by omega) h
      omega
    · have:=Int.mul_le_mul (a:=q) (b:=-d) (c:=1000000) (d:=255) hqr.2 (by omega) (by omega) (by omega)
      rw [Int.mul_neg] at this
      omega
  have h0:q*d=0:=by omega
  rcases Int.mul_eq_zero.mp h0 with h|h <;> omega
theorem be4_inj {m n:Int} (hm:0≤m∧m<4294967296) (hn:0≤n∧n<4294967296) (h:be4 m=be4 n):m=n:=by
  unfold be4 at h
  simp only [List.cons.injEq,and_true] at h
  omega
theorem sumB_range (l:List Int):0≤sumB l∧sumB l<4294967296:=by
  rw [sumB_is]
  omega
theorem be_bytes {n c:Int} (h:c∈be1 n∨c∈be2 n∨c∈be4 n):0≤c∧c<256:=by
  unfold be1 be2 be4 at h
  simp only [List.mem_cons,List.not_mem_nil,or_false] at h
  omega
theorem body_bytes (sz:Int) (cs:List MC) (rs:List MR):IsBytes (bodyB sz cs rs):=by
  intro c hc
  unfold bodyB headB magicB tabBytes charB dimsB ruleB at hc
  simp only [List.mem_append,List.mem_flatMap,List.mem_cons,List.not_mem_nil,or_false] at hc
  rcases hc with ((((((h|h|h|h)|h)|⟨j,_,h|⟨x,_,h⟩⟩)|h)|⟨x,_,h|⟨j,_,h⟩⟩)|h)|⟨x,_,((h|h)|h)|h⟩
  all_goals first|omega|exact be_bytes (.inl h)|exact be_bytes (.inr (.inl h))|exact be_bytes (.inr (.inr h))
theorem file_bytes (sz:Int) (cs:List MC) (rs:List MR):IsBytes (fileB sz cs rs):=by
  intro c hc
  rcases List.mem_append.mp hc with h|h
  · exact body_bytes sz cs rs c h
  · exact be_bytes (.inr (.inr h))
theorem open_changed (sz:Int) (cs:List MC) (rs:List MR) (p:Nat) (b:Int) (hv:validM sz cs rs=true) (hp:p<(fileB sz cs rs).length) (hl:(fileB sz cs rs).length≤1000000) (hb:0≤b∧b<256) (hne:b≠(fileB sz cs rs)[p]):openB ((fileB sz cs rs).set p b)=(0,[],[],30):=by
  rw [open_is]
  apply if_neg
  rintro ⟨-,-,he⟩
  generalize (parseB ((fileB sz cs rs).set p b)).1=sz' at he
  generalize (parseB ((fileB sz cs rs).set p b)).2.1=cs' at he
  generalize (parseB ((fileB sz cs rs).set p b)).2.2.1=rs' at he
  have hbytes:=file_bytes sz cs rs _ (List.getElem_mem hp)
  have hbb:=body_bytes sz cs rs
  unfold fileB at he hp hl hne hbytes
  obtain ⟨x,hx⟩ : ∃ x,x=bodyB sz cs rs:=⟨_,rfl⟩
  obtain ⟨y,hy⟩ : ∃ y,y=bodyB sz' cs' rs':=⟨_,rfl⟩
  simp only [← hx,← hy] at he hp hl hne hbytes hbb
  have h4 : ∀ n,(be4 n).length=4:=fun _=>rfl
  have hlen:y.length=x.length:=by
    have:=congrArg List.length he
    rw [List.length_set,List.length_append,List.length_append,h4,h4] at this
    omega
  rcases Nat.lt_or_ge p x.length with h|h
  · rw [List.set_append_left _ _ h] at he
    obtain ⟨h1,h2⟩:=List.append_inj he (by rw [List.length_set];exact hlen)
    have h3:=be4_inj (sumB_range _) (sumB_range _) h2
    rw [h1] at h3
    have h5:=hbb _ (List.getElem_mem h)
    have h6:=sumB_one x p b h (by rw [List.length_append] at hl;omega) h5 hb h3
    rw [List.getElem_append_left h] at hne
    exact hne h6
  · rw [List.set_append_right _ _ h] at he
    obtain ⟨h1,h2⟩:=List.append_inj he hlen
    rw [h1] at h2
    rw [List.getElem_append_right h] at hne
    have hq:p-x.length<(be4 (sumB x)).length:=by rw [List.length_append] at hp;omega
    have h3:((be4 (sumB x)).set (p-x.length) b)[p-x.length]'(by rw [List.length_set];exact hq)=b:=List.getElem_set_self ..
    have h7:(be4 (sumB x))[p-x.length]'hq=b:=by
      have:=congrArg (fun l:List Int=>l[p-x.length]?) h2
      rw [List.getElem?_eq_getElem hq,List.getElem?_eq_getElem (by rw [List.length_set];exact hq),h3] at this
      exact Option.some.inj this
    exact hne h7.symm
theorem open_short (sz:Int) (cs:List MC) (rs:List MR) (hv:validM sz cs rs=true):openB ((fileB sz cs rs).take ((fileB sz cs rs).length-1))=(0,[],[],30):=by
  rw [open_is]
  apply if_neg
  rintro ⟨-,hv2,he⟩
  generalize (parseB ((fileB sz cs rs).take ((fileB sz cs rs).length-1))).1=sz' at he hv2
  generalize (parseB ((fileB sz cs rs).take ((fileB sz cs rs).length-1))).2.1=cs' at he hv2
  generalize (parseB ((fileB sz cs rs).take ((fileB sz cs rs).length-1))).2.2.1=rs' at he hv2
  have hlen:4≤(fileB sz cs rs).length:=by
    unfold fileB
    rw [List.length_append]
    have:(be4 (sumB (bodyB sz cs rs))).length=4:=rfl
    omega
  have h1:=parse_file sz cs rs (be4 (sumB (bodyB sz cs rs))) hv
  have hf:bodyB sz cs rs++be4 (sumB (bodyB sz cs rs))=fileB sz cs rs:=rfl
  rw [hf] at h1
  have hd:fileB sz cs rs=fileB sz' cs' rs'++(fileB sz cs rs).drop ((fileB sz cs rs).length-1):=by
    rw [he,List.take_append_drop]
  have h2:=parse_file sz' cs' rs' (be4 (sumB (bodyB sz' cs' rs'))++(fileB sz cs rs).drop ((fileB sz cs rs).length-1)) hv2
  have hd2:bodyB sz' cs' rs'++(be4 (sumB (bodyB sz' cs' rs'))++(fileB sz cs rs).drop ((fileB sz cs rs).length-1))=fileB sz cs rs:=by
    rw [← List.append_assoc]
    exact hd.symm
  rw [hd2,h1] at h2
  simp only [Prod.mk.injEq] at h2
  obtain ⟨rfl,rfl,rfl,-⟩:=h2
  have:=congrArg List.length he
  rw [List.length_take] at this
  omega
end Go.Proofs.YtoemkemmiikhlaaGreat.PF4
