import Derived.Test.YtckjlckhjcbddaaGreatPG3x0
set_option linter.unusedVariables false
set_option linter.unusedSectionVars false
set_option linter.unusedSimpArgs false
namespace Go.Proofs.YtckjlckhjcbddaaGreat.PG3.Pn.HG
open Go.Proofs.YtckjlckhjcbddaaGreat.PG3
def crs (a b c d:Int):Int:=a*d-b*c
def Lp (x y:Int):Prop:=0<x∨x=0∧0<y
theorem lp_x {x y:Int} (h:Lp x y):0≤x:=by unfold Lp at h;omega
theorem pos_mul {x y:Int} (h:0<x*y) (hy:0<y):0<x:=by
  rcases Int.lt_trichotomy x 0 with h1|h1|h1
  · have:=Int.mul_neg_of_neg_of_pos h1 hy;omega
  · subst h1;simp at h
  · exact h1
theorem nonneg_mul {x y:Int} (h:0≤x*y) (hy:0<y):0≤x:=by
  rcases (show x<0∨0≤x by omega) with h1|h1
  · have:=Int.mul_neg_of_neg_of_pos h1 hy;omega
  · exact h1
theorem key13 (a b c d e f:Int):crs a b e f*c=crs a b c d*e+crs c d e f*a:=by unfold crs;grind
theorem ang {a b c d e f:Int} (h1:Lp a b) (h2:Lp c d) (h3:Lp e f) (h12:0≤crs a b c d) (h23:0≤crs c d e f):0≤crs a b e f:=by
  have x1:=lp_x h1;have x3:=lp_x h3
  rcases h2 with h2|⟨h2,h2'⟩
  · apply nonneg_mul (y:=c) _ h2
    rw [key13 a b c d e f]
    have p1:=Int.mul_nonneg h12 x3
    have p2:=Int.mul_nonneg h23 x1
    omega
  · subst h2
    have hx:e=0:=by
      rcases (show 0<e∨e≤0 by omega) with he|he
      · have:=Int.mul_pos h2' he;unfold crs at h23;omega
      · omega
    subst hx
    have hf:0<f:=by unfold Lp at h3;omega
    have:=Int.mul_nonneg x1 (Int.le_of_lt hf)
    unfold crs;omega
theorem ang_sw {a b c d e f:Int} (h1:Lp a b) (h2:Lp c d) (h3:Lp e f) (h12:0<crs a b c d) (h23:0≤crs c d e f):0<crs a b e f:=by
  have x1:=lp_x h1;have x3:=lp_x h3
  rcases h2 with h2|⟨h2,h2'⟩
  · rcases (show 0<e∨e≤0 by omega) with he|he
    · apply pos_mul (y:=c) _ h2
      rw [key13 a b c d e f]
      have p1:=Int.mul_pos h12 he
      have p2:=Int.mul_nonneg h23 x1
      omega
    · have hx:e=0:=by omega
      subst hx
      have hf:0<f:=by unfold Lp at h3;omega
      rcases (show 0<a∨a≤0 by omega) with ha|ha
      · have:=Int.mul_pos ha hf;unfold crs;omega
      · have ha0:a=0:=by omega
        subst ha0
        have hb:0<b:=by unfold Lp at h1;omega
        have:=Int.mul_pos hb h2
        unfold crs at h12;omega
  · subst h2
    have hx:e=0:=by
      rcases (show 0<e∨e≤0 by omega) with he|he
      · have:=Int.mul_pos h2' he;unfold crs at h23;omega
      · omega
    subst hx
    have hf:0<f:=by unfold Lp at h3;omega
    have ha:0<a:=by
      rcases (show 0<a∨a≤0 by omega) with ha|ha
      · exact ha
      · have:a=0:=by omega
        subst this;unfold crs at h12;simp at h12
    have:=Int.mul_pos ha hf
    unfold crs;omega
theorem crs_flip (a b c d:Int):crs (-a) (-b) (-c) (-d)=crs a b c d:=by unfold crs;grind
theorem crs_swp (a b c d:Int):crs c d a b = - crs a b c d:=by unfold crs;grind
def area (a b p:S47):Int:=(b.f0-a.f0)*(p.f1-a.f1)-(b.f1-a.f1)*(p.f0-a.f0)
def Lt (a b:S47):Prop:=Lp (b.f0-a.f0) (b.f1-a.f1)
def Le (a b:S47):Prop:=Lt a b∨a=b
theorem ptx {a b:S47} (h0:a.f0=b.f0) (h1:a.f1=b.f1):a=b:=by
  cases a;cases b;simp only at h0 h1;subst h0;subst h1;rfl
theorem lt_trans {a b c:S47} (h1:Lt a b) (h2:Lt b c):Lt a c:=by unfold Lt Lp at *;omega
theorem lt_irrefl {a:S47} : ¬ Lt a a:=by unfold Lt Lp;omega
theorem lt_or (a b:S47):Lt a b∨a=b∨Lt b a:=by
  by_cases h0:a.f0=b.f0
  · by_cases h1:a.f1=b.f1
    · exact .inr (.inl (ptx h0 h1))
    · unfold Lt Lp;omega
  · unfold Lt Lp;omega
theorem le_lt {a b c:S47} (h1:Le a b) (h2:Lt b c):Lt a c:=by
  rcases h1 with h1|rfl
  · exact lt_trans h1 h2
  · exact h2
theorem lt_le {a b c:S47} (h1:Lt a b) (h2:Le b c):Lt a c:=by
  rcases h2 with h2|rfl
  · exact lt_trans h1 h2
  · exact h1
theorem le_trans {a b c:S47} (h1:Le a b) (h2:Le b c):Le a c:=by
  rcases h1 with h1|rfl
  · exact .inl (lt_le h1 h2)
  · exact h2
theorem not_lt_le {a b:S47} (h1:Lt a b) (h2:Le b a):False:=lt_irrefl (lt_le h1 h2)
theorem le_or (a b:S47):Le a b∨Lt b a:=by
  rcases lt_or a b with h|h|h
  · exact .inl (.inl h)
  · exact .inl (.inr h)
  · exact .inr h
theorem area_ab (a b:S47):area a b a=0∧area a b b=0:=by unfold area;constructor <;> grind
def popR (p : S47) : List S47 → List S47
  | b::a::r=>if area a b p≤0 then popR p (a::r) else b::a::r
  | st=>st
def pushR (st:List S47) (p:S47):List S47:=p::popR p st
def Good : List S47 → Prop
  | c::b::a::r=>Lt b c∧0<area a b c∧Good (b::a::r)
  | [b,a]=>Lt a b
  | _=>True
def Wk (q : S47) : List S47 → Prop
  | b::a::r=>0≤area a b q∧Wk q (a::r)
  | _=>True
theorem good_tail : ∀ {b : S47} {r : List S47}, Good (b :: r) → Good r
  | _,[],_=>trivial
  | _,[_],_=>trivial
  | _,_::_::_,h=>h.2.2
theorem good_lt {b a:S47} {r:List S47} (h:Good (b::a::r)):Lt a b:=by
  cases r with
  | nil=>exact h
  | cons z r=>exact h.1
theorem wk_tail {q b:S47} {r:List S47} (h:Wk q (b::r)):Wk q r:=by
  cases r with
  | nil=>trivial
  | cons a r=>exact h.2
theorem left_pop {a b p q:S47} (hab:Lt a b) (hap:Lt a p) (hq:Le a q) (hw:0≤area a b q) (hp:area a b p≤0):0≤area a p q:=by
  rcases hq with hq|rfl
  · have h1:0≤crs (p.f0-a.f0) (p.f1-a.f1) (b.f0-a.f0) (b.f1-a.f1):=by unfold area at hp;unfold crs;grind
    have h2:0≤crs (b.f0-a.f0) (b.f1-a.f1) (q.f0-a.f0) (q.f1-a.f1):=by unfold area at hw;unfold crs;grind
    have:=ang hap hab hq h1 h2
    unfold crs at this;unfold area;grind
  · rw [(area_ab a p).1];exact Int.le_refl 0
theorem left_push {a b p q:S47} (hab:Lt a b) (hbp:Lt b p) (hq:Lt q b) (hw:0≤area a b q) (hp:0<area a b p):0≤area b p q:=by
  have h1:0≤crs (b.f0-q.f0) (b.f1-q.f1) (b.f0-a.f0) (b.f1-a.f1):=by unfold area at hw;unfold crs;grind
  have h2:0<crs (b.f0-a.f0) (b.f1-a.f1) (p.f0-b.f0) (p.f1-b.f1):=by unfold area at hp;unfold crs;grind
  have:=ang hq hab hbp h1 (Int.le_of_lt h2)
  unfold crs at this;unfold area;grind
theorem left_old {z a b p:S47} (hza:Lt z a) (hab:Lt a b) (hap:Lt a p) (h1:0<area z a b) (h2:0≤area a b p):0<area z a p:=by
  have k1:0<crs (a.f0-z.f0) (a.f1-z.f1) (b.f0-a.f0) (b.f1-a.f1):=by unfold area at h1;unfold crs;grind
  have k2:0≤crs (b.f0-a.f0) (b.f1-a.f1) (p.f0-a.f0) (p.f1-a.f1):=by unfold area at h2;unfold crs;grind
  have:=ang_sw hza hab hap k1 k2
  unfold crs at this;unfold area;grind
theorem wk_new {p : S47} : ∀ (r : List S47) (b a : S47), Good (b :: a :: r) → Lt b p → 0 < area a b p → Wk p (b :: a :: r)
  | [],b,a,hg,hbp,h=>⟨Int.le_of_lt h,trivial⟩
  | z::r,b,a,hg,hbp,h=>by
    obtain ⟨hab,h1,hg'⟩:=hg
    have hza:=good_lt hg'
    exact ⟨Int.le_of_lt h,wk_new r a z hg' (lt_trans hab hbp) (left_old hza hab (lt_trans hab hbp) h1 (Int.le_of_lt h))⟩
theorem pop_spec {p : S47} (done : List S47) : ∀ (st : List S47) (b : S47) (r : List S47), st = b :: r → Good st → (∀ q ∈ done, Wk q st) → (∀ x ∈ st, Lt x p) → (∀ q ∈ done, Le b q → 0 ≤ area b p q) →
    ∃ b' r',popR p st=b'::r'∧Good (b'::r')∧(∀ q∈done,Wk q (b'::r'))∧(∀ x∈b'::r',x∈st)∧(∀ q∈done,Le b' q→0≤area b' p q)∧(∀ z r'',r'=z::r''→0<area z b' p)∧(b'::r').getLast?=st.getLast?
  | [],_,_,h,_,_,_,_=>by cases h
  | [x],b,r,h,hg,hw,hl,hj=>by
    injection h with h1 h2;subst h1;subst h2
    exact ⟨x,[],rfl,hg,hw,fun _ h=>h,hj,(fun z r'' (h:([]:List S47)=z::r'')=>by cases h),rfl⟩
  | x::a::r0,b,r,h,hg,hw,hl,hj=>by
    injection h with h1 h2;subst h1;subst h2
    by_cases hc:area a x p≤0
    · obtain ⟨b', r', e, k1, k2, k3, k4, k5, k6⟩ := pop_spec done (a :: r0) a r0 rfl (good_tail hg) (fun q hq => wk_tail (hw q hq)) (fun y hy => hl y (List.mem_cons_of_mem _ hy))
        (fun q hq hle=>left_pop (good_lt hg) (hl a (by simp)) hle (hw q hq).1 hc)
      exact ⟨b',r',by rw [← e];unfold popR;rw [if_pos hc];rw [popR.eq_def],k1,k2,fun y hy=>List.mem_cons_of_mem _ (k3 y hy),k4,k5,by rw [k6];simp⟩
    · exact ⟨x,a::r0,by unfold popR;rw [if_neg hc],hg,hw,fun _ h=>h,hj,fun z r'' h=>by injection h with h1 h2;subst h1;omega,rfl⟩
structure ChainInv (done st:List S47):Prop where
  good:Good st
  wk : ∀ q∈done,Wk q st
  sub : ∀ x∈st,x∈done
  head:st.head?=done.getLast?
  last:st.getLast?=done.head?
def Rising (l:List S47):Prop:=l.Pairwise Lt
theorem rising_le_last {l:List S47} {m:S47} (h:Rising l) (hm:l.getLast?=some m) {x:S47} (hx:x∈l):Le x m:=by
  obtain ⟨ys,rfl⟩:=List.getLast?_eq_some_iff.mp hm
  rcases List.mem_append.mp hx with h1|h1
  · exact .inl ((List.pairwise_append.mp h).2.2 x h1 m (by simp))
  · exact .inr (by simpa using h1)
theorem rising_head_le {l:List S47} {m:S47} (h:Rising l) (hm:l.head?=some m) {x:S47} (hx:x∈l):Le m x:=by
  cases l with
  | nil=>cases hm
  | cons a r =>
    have:a=m:=by simpa using hm
    subst this
    rcases List.mem_cons.mp hx with h1|h1
    · exact .inr h1.symm
    · exact .inl ((List.pairwise_cons.mp h).1 x h1)
theorem push_inv {done st:List S47} {p:S47} (hi:ChainInv done st) (hr:Rising (done++[p])):ChainInv (done++[p]) (pushR st p):=by
  obtain ⟨hg,hw,hs,hh,hl⟩:=hi
  have hlt : ∀ x∈done,Lt x p:=fun x hx=>(List.pairwise_append.mp hr).2.2 x hx p (by simp)
  have hrd:Rising done:=(List.pairwise_append.mp hr).1
  cases hst:st with
  | nil =>
    have hd:done=[]:=by
      rw [hst] at hh
      cases done with
      | nil=>rfl
      | cons a r=>exact absurd hh (by simp [List.getLast?_cons])
    subst hd
    exact ⟨trivial,fun _ _=>trivial,fun x hx=>by simpa [pushR,popR] using hx,by simp [pushR],by simp [pushR,popR]⟩
  | cons b r =>
    have hb:done.getLast?=some b:=by rw [← hh,hst];rfl
    obtain ⟨b', r', e, k1, k2, k3, k4, k5, k6⟩ := pop_spec (p := p) done st b r hst hg hw (fun x hx => hlt x (hs x hx))
      (fun q hq hle=>by
        have:=rising_le_last hrd hb hq
        rcases this with h|rfl
        · exact (not_lt_le h hle).elim
        · rw [(area_ab q p).1];exact Int.le_refl 0)
    have hne:done≠[]:=by rintro rfl;simp at hb
    obtain ⟨m,hm⟩ : ∃ m,done.head?=some m:=by cases done with|nil=>exact absurd rfl hne|cons a r=>exact ⟨a,rfl⟩
    have hb'd:b'∈done:=hs b' (k3 b' (by simp))
    have hlast:(b'::r').getLast?=some m:=by rw [k6,hl,hm]
    have hgood:Good (p::b'::r'):=by
      cases r' with
      | nil=>exact hlt b' hb'd
      | cons z r''=>exact ⟨hlt b' hb'd,k5 z r'' rfl,k1⟩
    refine ⟨?_,?_,?_,?_,?_⟩
    · unfold pushR;rw [← hst,e];exact hgood
    · intro q hq
      unfold pushR;rw [← hst,e]
      rcases List.mem_append.mp hq with hq|hq
      · refine ⟨?_,k2 q hq⟩
        rcases le_or b' q with h|h
        · exact k4 q hq h
        · cases r' with
          | nil =>
            have:b'=m:=by simpa using hlast
            subst this
            exact (not_lt_le h (rising_head_le hrd hm hq)).elim
          | cons z r''=>exact left_push (good_lt k1) (hlt b' hb'd) h (k2 q hq).1 (k5 z r'' rfl)
      · obtain rfl:q=p:=by simpa using hq
        refine ⟨by rw [(area_ab b' q).2];exact Int.le_refl 0,?_⟩
        cases r' with
        | nil=>trivial
        | cons z r''=>exact wk_new r'' b' z k1 (hlt b' hb'd) (k5 z r'' rfl)
    · intro x hx
      unfold pushR at hx;rw [← hst,e] at hx
      rcases List.mem_cons.mp hx with h|h
      · subst h;simp
      · exact List.mem_append_left _ (hs x (k3 x h))
    · simp [pushR]
    · unfold pushR;rw [← hst,e]
      rw [List.getLast?_cons_cons,hlast,List.head?_append,hm];rfl
theorem chain_from : ∀ (todo done st : List S47), ChainInv done st → Rising (done ++ todo) → ChainInv (done ++ todo) (todo.foldl pushR st)
  | [],done,st,h,_=>by simpa using h
  | p::todo,done,st,h,hr=>by
    have e:done++p::todo=(done++[p])++todo:=by simp
    rw [e] at hr ⊢
    exact chain_from todo (done++[p]) (pushR st p) (push_inv h (List.pairwise_append.mp hr).1) hr
def chainR (l:List S47):List S47:=l.foldl pushR []
theorem chain_inv (l:List S47) (h:Rising l):ChainInv l (chainR l):=by
  have:=chain_from l [] [] ⟨trivial,fun _ _=>trivial,fun _ h=>h,rfl,rfl⟩ (by simpa using h)
  rwa [List.nil_append] at this
theorem ang_ws {a b c d e f:Int} (h1:Lp a b) (h2:Lp c d) (h3:Lp e f) (h12:0≤crs a b c d) (h23:0<crs c d e f):0<crs a b e f:=by
  have x1:=lp_x h1;have x3:=lp_x h3
  rcases h2 with h2|⟨h2,h2'⟩
  · rcases (show 0<a∨a≤0 by omega) with ha|ha
    · apply pos_mul (y:=c) _ h2
      rw [key13 a b c d e f]
      have p1:=Int.mul_nonneg h12 x3
      have p2:=Int.mul_pos h23 ha
      omega
    · have ha0:a=0:=by omega
      subst ha0
      have hb:0<b:=by unfold Lp at h1;omega
      have:=Int.mul_pos hb h2
      unfold crs at h12;omega
  · subst h2
    have hx:=Int.mul_nonneg (Int.le_of_lt h2') x3
    unfold crs at h23;omega
theorem left_push' {a b p q:S47} (hab:Lt a b) (hbp:Lt b p) (hq:Lt q b) (hw:0≤area a b q) (hp:0<area a b p):0<area b p q:=by
  have h1:0≤crs (b.f0-q.f0) (b.f1-q.f1) (b.f0-a.f0) (b.f1-a.f1):=by unfold area at hw;unfold crs;grind
  have h2:0<crs (b.f0-a.f0) (b.f1-a.f1) (p.f0-b.f0) (p.f1-b.f1):=by unfold area at hp;unfold crs;grind
  have:=ang_ws hq hab hbp h1 h2
  unfold crs at this;unfold area;grind
theorem good_pairwise : ∀ {st : List S47}, Good st → st.Pairwise (fun b a => Lt a b)
  | [],_=>List.Pairwise.nil
  | [_],_=>by simp
  | b::a::r,h=>by
    have ih:=good_pairwise (good_tail h)
    refine List.pairwise_cons.mpr ⟨fun x hx=>?_,ih⟩
    rcases List.mem_cons.mp hx with rfl|hx
    · exact good_lt h
    · exact lt_trans ((List.pairwise_cons.mp ih).1 x hx) (good_lt h)
theorem strict_new {p : S47} : ∀ (r : List S47) (b a : S47), Good (b :: a :: r) → Lt b p → 0 < area a b p → ∀ x c d y, b :: a :: r = x ++ d :: c :: y → 0 < area c d p
  | r,b,a,hg,hbp,h,[],c,d,y,e=>by
    simp only [List.nil_append,List.cons.injEq] at e
    obtain ⟨rfl,rfl,_⟩:=e
    exact h
  | [],b,a,hg,hbp,h,x0::x,c,d,y,e=>by
    simp only [List.cons_append,List.cons.injEq] at e
    obtain ⟨_,e⟩:=e
    have:=congrArg List.length e
    simp at this
    omega
  | z::r,b,a,hg,hbp,h,x0::x,c,d,y,e=>by
    simp only [List.cons_append,List.cons.injEq] at e
    obtain ⟨hab,h1,hg'⟩:=hg
    exact strict_new r a z hg' (lt_trans hab hbp) (left_old (good_lt hg') hab (lt_trans hab hbp) h1 (Int.le_of_lt h)) x c d y e.2
theorem good_strict : ∀ (st : List S47), Good st → ∀ x b a y, st = x ++ b :: a :: y → (∀ v ∈ x, 0 < area a b v) ∧ (∀ v ∈ y, 0 < area a b v)
  | [],_,x,b,a,y,e=>by simp at e
  | p::st,hg,[],b,a,y,e=>by
    simp only [List.nil_append,List.cons.injEq] at e
    obtain ⟨rfl,rfl⟩:=e
    refine ⟨(fun v (h:v∈([]:List S47))=>by cases h),?_⟩
    cases y with
    | nil=>intro _ h;cases h
    | cons z y =>
      intro v hv
      obtain ⟨hap,h1,hg'⟩:=hg
      rcases List.mem_cons.mp hv with rfl|hv
      · have:area a p v=area v a p:=by unfold area;grind
        rw [this];exact h1
      · have ih:=good_strict (a::z::y) hg' [] a z y rfl
        exact left_push' (good_lt hg') hap (lt_trans ((List.pairwise_cons.mp (List.pairwise_cons.mp (good_pairwise hg')).2).1 v hv) (good_lt hg')) (Int.le_of_lt (ih.2 v hv)) h1
  | p::st,hg,x0::x,b,a,y,e=>by
    simp only [List.cons_append,List.cons.injEq] at e
    obtain ⟨rfl,e⟩:=e
    have ih:=good_strict st (good_tail hg) x b a y e
    refine ⟨fun v hv=>?_,ih.2⟩
    rcases List.mem_cons.mp hv with rfl|hv
    · cases hst:st with
      | nil=>rw [hst] at e;simp at e
      | cons c r =>
        rw [hst] at hg e
        cases hr:r with
        | nil =>
          rw [hr] at e
          have:=congrArg List.length e
          simp at this
          omega
        | cons d r' =>
          rw [hr] at hg e
          exact strict_new r' c d hg.2.2 (good_lt hg) hg.2.1 x a b y e
    · exact ih.1 v hv
theorem wk_edge {q : S47} : ∀ (st : List S47), Wk q st → ∀ x b a y, st = x ++ b :: a :: y → 0 ≤ area a b q
  | [],_,x,b,a,y,e=>by simp at e
  | [_],_,x,b,a,y,e=>by have:=congrArg List.length e;simp at this;omega
  | p::c::st,h,[],b,a,y,e=>by
    simp only [List.nil_append,List.cons.injEq] at e
    obtain ⟨rfl,rfl,_⟩:=e
    exact h.1
  | p::c::st,h,x0::x,b,a,y,e=>by
    simp only [List.cons_append,List.cons.injEq] at e
    exact wk_edge (c::st) h.2 x b a y e.2
def ng (p:S47):S47:=⟨-p.f0,-p.f1⟩
theorem ng_ng (p:S47):ng (ng p)=p:=by cases p;simp [ng]
theorem area_ng (a b p:S47):area (ng a) (ng b) (ng p)=area a b p:=by unfold area ng;grind
theorem lt_ng {a b:S47} : Lt (ng a) (ng b)↔Lt b a:=by unfold Lt Lp ng;simp only;omega
theorem popR_ng (p : S47) : ∀ st : List S47, popR (ng p) (st.map ng) = (popR p st).map ng
  | []=>rfl
  | [_]=>rfl
  | b::a::r=>by
    have ih:=popR_ng p (a::r)
    simp only [List.map_cons] at ih ⊢
    rw [popR,popR,area_ng]
    by_cases h:area a b p≤0
    · rw [if_pos h,if_pos h];exact ih
    · rw [if_neg h,if_neg h];rfl
theorem foldl_ng : ∀ (l st : List S47), (l.map ng).foldl pushR (st.map ng) = (l.foldl pushR st).map ng
  | [],_=>rfl
  | p::l,st=>by
    simp only [List.map_cons,List.foldl_cons]
    rw [show pushR (st.map ng) (ng p)=(pushR st p).map ng by unfold pushR;rw [popR_ng];rfl]
    exact foldl_ng l _
theorem chainR_ng (l:List S47):chainR (l.map ng)=(chainR l).map ng:=foldl_ng l []
theorem rising_rev {l:List S47} (h:Rising l):Rising (l.reverse.map ng):=by
  unfold Rising at *
  rw [List.pairwise_map,List.pairwise_reverse]
  exact h.imp (fun h=>lt_ng.mpr h)
theorem across {a b u v w : S47} (hab : Lt a b) (huv : Lt v u) (hvw : Lt w v) (hc : 0 < area u v w)
    (h1:0≤area a b u) (h2:0≤area a b v) (h3:0≤area a b w) (h4:0≤area u v a) (h5:0≤area u v b) (h6:0≤area v w a) (h7:0≤area v w b):0<area a b v:=by
  rcases (show 0<area a b v∨area a b v=0 by omega) with h|h
  · exact h
  · exfalso
    have cUW:0<crs (u.f0-v.f0) (u.f1-v.f1) (v.f0-w.f0) (v.f1-w.f1):=by unfold area at hc;unfold crs;grind
    rcases le_or v a with hva|hav
    · have hvb:Lt v b:=le_lt hva hab
      have e1:0≤crs (b.f0-v.f0) (b.f1-v.f1) (u.f0-v.f0) (u.f1-v.f1):=by unfold area at h5;unfold crs;grind
      have e2:=ang_ws hvb huv hvw e1 cUW
      have e3:0≤crs (v.f0-w.f0) (v.f1-w.f1) (b.f0-a.f0) (b.f1-a.f1):=by unfold area at h3 h;unfold crs;grind
      have e4:0≤crs (b.f0-a.f0) (b.f1-a.f1) (b.f0-v.f0) (b.f1-v.f1):=by unfold area at h;unfold crs;grind
      have e5:=ang hvw hab hvb e3 e4
      have e6:=crs_swp (b.f0-v.f0) (b.f1-v.f1) (v.f0-w.f0) (v.f1-w.f1)
      omega
    · have e1:0≤crs (v.f0-w.f0) (v.f1-w.f1) (v.f0-a.f0) (v.f1-a.f1):=by unfold area at h6;unfold crs;grind
      have e2:=ang_sw huv hvw hav cUW e1
      have e3:0≤crs (v.f0-a.f0) (v.f1-a.f1) (b.f0-a.f0) (b.f1-a.f1):=by unfold area at h;unfold crs;grind
      have e4:0≤crs (b.f0-a.f0) (b.f1-a.f1) (u.f0-v.f0) (u.f1-v.f1):=by unfold area at h1 h;unfold crs;grind
      have e5:=ang hav hab huv e3 e4
      have e6:=crs_swp (v.f0-a.f0) (v.f1-a.f1) (u.f0-v.f0) (u.f1-v.f1)
      omega
def Nb (l:List S47) (a b:S47):Prop:=∃ i,l[i]?=some a∧l[i+1]?=some b
def Edge (R:List S47) (a b:S47):Prop:=∃ i,i<R.length∧R[i]?=some a∧R[(i+1) % R.length]?=some b
theorem nb_split {l:List S47} {a b:S47} (h:Nb l a b) : ∃ p s,l=p++a::b::s:=by
  obtain ⟨i,h1,h2⟩:=h
  obtain ⟨k1,e1⟩:=List.getElem?_eq_some_iff.mp h1
  obtain ⟨k2,e2⟩:=List.getElem?_eq_some_iff.mp h2
  refine ⟨l.take i,l.drop (i+2),?_⟩
  rw [← e1,← e2,← List.drop_eq_getElem_cons k2,← List.drop_eq_getElem_cons k1,List.take_append_drop]
theorem nb_mem {l:List S47} {a b:S47} (h:Nb l a b):a∈l∧b∈l:=by
  obtain ⟨p,s,rfl⟩:=nb_split h
  simp
structure Half (D low:List S47):Prop where
  sub : ∀ v∈low,v∈D
  weak : ∀ a b,Nb low a b→∀ q∈D,0≤area a b q
  strict : ∀ a b,Nb low a b→∀ v∈low,v≠a→v≠b→0<area a b v
  rise:low.Pairwise Lt
theorem half_of {S:List S47} (h:Rising S):Half S (chainR S).reverse:=by
  obtain ⟨hg,hw,hs,hh,hl⟩:=chain_inv S h
  have hp:=good_pairwise hg
  refine ⟨fun v hv=>hs v (by simpa using hv),?_,?_,?_⟩
  · intro a b hn q hq
    obtain ⟨p,s,e⟩:=nb_split hn
    have e':chainR S=s.reverse++b::a::p.reverse:=by rw [← List.reverse_reverse (chainR S),e];simp
    exact wk_edge _ (hw q hq) _ _ _ _ e'
  · intro a b hn v hv hva hvb
    obtain ⟨p,s,e⟩:=nb_split hn
    have e':chainR S=s.reverse++b::a::p.reverse:=by rw [← List.reverse_reverse (chainR S),e];simp
    have hst:=good_strict _ hg _ _ _ _ e'
    rw [e] at hv
    rcases List.mem_append.mp hv with h1|h1
    · exact hst.2 v (by simpa using h1)
    · rcases List.mem_cons.mp h1 with h1|h1
      · exact absurd h1 hva
      · rcases List.mem_cons.mp h1 with h1|h1
        · exact absurd h1 hvb
        · exact hst.1 v (by simpa using h1)
  · rw [List.pairwise_reverse];exact hp
theorem nb_map_ng {l:List S47} {a b:S47} (h:Nb l a b):Nb (l.map ng) (ng a) (ng b):=by
  obtain ⟨i,h1,h2⟩:=h
  exact ⟨i,by rw [List.getElem?_map,h1];rfl,by rw [List.getElem?_map,h2];rfl⟩
structure HalfUp (D high:List S47):Prop where
  sub : ∀ v∈high,v∈D
  weak : ∀ a b,Nb high a b→∀ q∈D,0≤area a b q
  strict : ∀ a b,Nb high a b→∀ v∈high,v≠a→v≠b→0<area a b v
  fall:high.Pairwise (fun a b=>Lt b a)
theorem ng_inj {a b:S47} (h:ng a=ng b):a=b:=by rw [← ng_ng a,h,ng_ng]
theorem mem_map_ng {D:List S47} {q:S47} : ng q∈D.map ng↔q∈D:=by
  constructor
  · intro h
    obtain ⟨x,hx,e⟩:=List.mem_map.mp h
    rw [← ng_inj e];exact hx
  · exact fun h=>List.mem_map.mpr ⟨q,h,rfl⟩
theorem Half.turn {D low:List S47} (h:Half (D.map ng) (low.map ng)):HalfUp D low:=by
  refine ⟨fun v hv=>mem_map_ng.mp (h.sub _ (mem_map_ng.mpr hv)),fun a b hn q hq=>?_,fun a b hn v hv h1 h2=>?_,?_⟩
  · rw [← area_ng];exact h.weak _ _ (nb_map_ng hn) _ (mem_map_ng.mpr hq)
  · rw [← area_ng];exact h.strict _ _ (nb_map_ng hn) _ (mem_map_ng.mpr hv) (fun e=>h1 (ng_inj e)) (fun e=>h2 (ng_inj e))
  · have:=h.rise
    rw [List.pairwise_map] at this
    exact this.imp (fun h=>lt_ng.mp h)
theorem halfUp_of {S:List S47} (h:Rising S):HalfUp S (chainR S.reverse).reverse:=by
  have h1:=half_of (rising_rev h)
  rw [chainR_ng,← List.map_reverse] at h1
  have h2:=h1.turn
  exact ⟨fun v hv=>by simpa using h2.sub v hv,fun a b hn q hq=>h2.weak a b hn q (by simpa using hq),h2.strict,h2.fall⟩
theorem nb_lt {l:List S47} {r:S47→S47→Prop} (h:l.Pairwise r) {a b:S47} (hn:Nb l a b):r a b:=by
  obtain ⟨p,s,rfl⟩:=nb_split hn
  exact (List.pairwise_cons.mp (List.pairwise_append.mp h).2.1).1 b (by simp)
theorem across_low {D low high:List S47} (hl:Half D low) (hh:HalfUp D high) {a b u v w:S47} (hn:Nb low a b) (h1:Nb high u v) (h2:Nb high v w):0<area a b v:=by
  have k:=nb_mem hn;have k1:=nb_mem h1;have k2:=nb_mem h2
  have l1:=nb_lt hh.fall h1;have l2:=nb_lt hh.fall h2
  refine across (nb_lt hl.rise hn) l1 l2 (hh.strict u v h1 w k2.2 ?_ ?_) (hl.weak a b hn u (hh.sub _ k1.1)) (hl.weak a b hn v (hh.sub _ k1.2)) (hl.weak a b hn w (hh.sub _ k2.2)) (hh.weak u v h1 a (hl.sub _ k.1)) (hh.weak u v h1 b (hl.sub _ k.2)) (hh.weak v w h2 a (hl.sub _ k.1)) (hh.weak v w h2 b (hl.sub _ k.2))
  · rintro rfl;exact lt_irrefl (lt_trans l1 l2)
  · rintro rfl;exact lt_irrefl l2
theorem across_high {D low high:List S47} (hl:Half D low) (hh:HalfUp D high) {a b u v w:S47} (hn:Nb high a b) (h1:Nb low u v) (h2:Nb low v w):0<area a b v:=by
  have k:=nb_mem hn;have k1:=nb_mem h1;have k2:=nb_mem h2
  have l1:=nb_lt hl.rise h1;have l2:=nb_lt hl.rise h2
  rw [← area_ng]
  refine across (u:=ng u) (w:=ng w) (lt_ng.mpr (nb_lt hh.fall hn)) (lt_ng.mpr l1) (lt_ng.mpr l2) ?_ ?_ ?_ ?_ ?_ ?_ ?_ ?_ <;> rw [area_ng]
  · refine hl.strict u v h1 w k2.2 ?_ ?_
    · rintro rfl;exact lt_irrefl (lt_trans l1 l2)
    · rintro rfl;exact lt_irrefl l2
  · exact hh.weak a b hn u (hl.sub _ k1.1)
  · exact hh.weak a b hn v (hl.sub _ k1.2)
  · exact hh.weak a b hn w (hl.sub _ k2.2)
  · exact hl.weak u v h1 a (hh.sub _ k.1)
  · exact hl.weak u v h1 b (hh.sub _ k.2)
  · exact hl.weak v w h2 a (hh.sub _ k.1)
  · exact hl.weak v w h2 b (hh.sub _ k.2)
structure Pen (h:List S47):Prop where
  first : ∃ m,h.head?=some m∧∀ v∈h,Le m v
  nodup:h.Nodup
  strict : ∀ a b,Edge h a b→∀ v∈h,v≠a→v≠b→0<area a b v
def ring (low high:List S47):List S47:=low.dropLast++high.dropLast
theorem pairwise_nodup {l:List S47} {r:S47→S47→Prop} (h:l.Pairwise r) (hr : ∀ a,¬ r a a):l.Nodup :=
  h.imp (fun {a b} hab e=>by subst e;exact hr _ hab)
section
variable {D low high : List S47} (hl : Half D low) (hh : HalfUp D high) {mn mx : S47} (h2l : 2 ≤ low.length) (h2h : 2 ≤ high.length)
  (l0:low.head?=some mn) (l1:low.getLast?=some mx) (g0:high.head?=some mx) (g1:high.getLast?=some mn)
include hl hh h2l h2h l0 l1 g0 g1
theorem ring_get (i:Nat) (hi:i<(ring low high).length):(ring low high)[i]?=if i<low.length-1 then low[i]? else high[i-(low.length-1)]?:=by
  unfold ring at *
  rw [List.getElem?_append]
  simp only [List.length_append,List.length_dropLast] at hi ⊢
  by_cases h:i<low.length-1
  · rw [if_pos h,if_pos h,List.getElem?_dropLast,if_pos h]
  · rw [if_neg h,if_neg h,List.getElem?_dropLast,if_pos (by omega)]
theorem ring_len:(ring low high).length=(low.length-1)+(high.length-1):=by unfold ring;simp
theorem ring_edge {a b:S47} (h:Edge (ring low high) a b):Nb low a b∨Nb high a b:=by
  obtain ⟨i,hi,ha,hb⟩:=h
  have hn:=ring_len hl hh h2l h2h l0 l1 g0 g1
  have hg:=ring_get hl hh h2l h2h l0 l1 g0 g1
  have q1:low[low.length-1]?=some mx:=by rw [← List.getLast?_eq_getElem?];exact l1
  have q2:high[high.length-1]?=some mn:=by rw [← List.getLast?_eq_getElem?];exact g1
  have q3:low[0]?=some mn:=by rw [← List.head?_eq_getElem?];exact l0
  have q4:high[0]?=some mx:=by rw [← List.head?_eq_getElem?];exact g0
  rw [hg i hi] at ha
  by_cases hlast:i+1=(ring low high).length
  · rw [hlast,Nat.mod_self,hg 0 (by omega),if_pos (by omega),q3] at hb
    rw [if_neg (by omega)] at ha
    refine .inr ⟨i-(low.length-1),ha,?_⟩
    rw [show i-(low.length-1)+1=high.length-1 by omega,q2];exact hb
  · rw [Nat.mod_eq_of_lt (by omega),hg (i+1) (by omega)] at hb
    by_cases h1:i<low.length-1
    · rw [if_pos h1] at ha
      refine .inl ⟨i,ha,?_⟩
      by_cases h3:i+1<low.length-1
      · rw [if_pos h3] at hb;exact hb
      · rw [if_neg h3,show i+1-(low.length-1)=0 by omega,q4] at hb
        rw [show i+1=low.length-1 by omega,q1];exact hb
    · rw [if_neg h1] at ha
      rw [if_neg (by omega)] at hb
      exact .inr ⟨i-(low.length-1),ha,by rw [← hb];congr 1;omega⟩
theorem ring_mem {v:S47} (hv:v∈ring low high):(v∈low∨∃ u w,Nb high u v∧Nb high v w)∧(v∈high∨∃ u w,Nb low u v∧Nb low v w):=by
  have q1:low[low.length-1]?=some mx:=by rw [← List.getLast?_eq_getElem?];exact l1
  have q2:high[high.length-1]?=some mn:=by rw [← List.getLast?_eq_getElem?];exact g1
  have q3:low[0]?=some mn:=by rw [← List.head?_eq_getElem?];exact l0
  have q4:high[0]?=some mx:=by rw [← List.head?_eq_getElem?];exact g0
  have inner : ∀ (l:List S47) (j:Nat),0<j→j+1<l.length→l[j]?=some v→∃ u w,Nb l u v∧Nb l v w:=fun l j h0 h1 hj =>
    ⟨l[j-1],l[j+1],⟨j-1,List.getElem?_eq_getElem (by omega),by rw [show j-1+1=j by omega];exact hj⟩,⟨j,hj,List.getElem?_eq_getElem h1⟩⟩
  unfold ring at hv
  rcases List.mem_append.mp hv with h|h
  · refine ⟨.inl ((List.dropLast_sublist _).mem h),?_⟩
    obtain ⟨j,hj⟩:=List.getElem?_of_mem h
    rw [List.getElem?_dropLast] at hj
    by_cases hjl:j<low.length-1
    · rw [if_pos hjl] at hj
      by_cases h0:j=0
      · subst h0
        rw [q3] at hj
        injection hj with hj
        subst hj
        exact .inl (List.mem_of_getElem? q2)
      · exact .inr (inner low j (by omega) (by omega) hj)
    · rw [if_neg hjl] at hj;cases hj
  · refine ⟨?_,.inl ((List.dropLast_sublist _).mem h)⟩
    obtain ⟨j,hj⟩:=List.getElem?_of_mem h
    rw [List.getElem?_dropLast] at hj
    by_cases hjl:j<high.length-1
    · rw [if_pos hjl] at hj
      by_cases h0:j=0
      · subst h0
        rw [q4] at hj
        injection hj with hj
        subst hj
        exact .inl (List.mem_of_getElem? q1)
      · exact .inr (inner high j (by omega) (by omega) hj)
    · rw [if_neg hjl] at hj;cases hj
theorem ring_weak {a b:S47} (h:Edge (ring low high) a b) {q:S47} (hq:q∈D):0≤area a b q:=by
  rcases ring_edge hl hh h2l h2h l0 l1 g0 g1 h with h|h
  · exact hl.weak a b h q hq
  · exact hh.weak a b h q hq
theorem ring_pen:Pen (ring low high):=by
  have q3:low[0]?=some mn:=by rw [← List.head?_eq_getElem?];exact l0
  have q4:high[0]?=some mx:=by rw [← List.head?_eq_getElem?];exact g0
  have hmn : ∀ v∈low,Le mn v:=fun v hv=>rising_head_le hl.rise l0 hv
  have hmh : ∀ v∈high,Le mn v:=fun v hv=>by
    have hr:Rising high.reverse:=by unfold Rising;rw [List.pairwise_reverse];exact hh.fall
    exact rising_head_le hr (by rw [List.head?_reverse];exact g1) (by simpa using hv)
  have nl:=pairwise_nodup hl.rise (fun a=>lt_irrefl)
  have nh:=pairwise_nodup hh.fall (fun a=>lt_irrefl)
  refine ⟨⟨mn,?_,?_⟩,?_,?_⟩
  · unfold ring
    rw [List.head?_append,List.head?_eq_getElem?,List.getElem?_dropLast,if_pos (by omega),q3];rfl
  · intro v hv
    rcases (ring_mem hl hh h2l h2h l0 l1 g0 g1 hv).1 with h|⟨u,w,h,_⟩
    · exact hmn v h
    · exact hmh v (nb_mem h).2
  · unfold ring
    rw [List.nodup_append]
    refine ⟨nl.sublist (List.dropLast_sublist _),nh.sublist (List.dropLast_sublist _),?_⟩
    rintro v hv v' hv' rfl
    obtain ⟨j,hj⟩:=List.getElem?_of_mem hv
    obtain ⟨k,hk⟩:=List.getElem?_of_mem hv'
    rw [List.getElem?_dropLast] at hj hk
    have hjl:j<low.length-1:=by
      rcases Nat.lt_or_ge j (low.length-1) with h|h
      · exact h
      · rw [if_neg (by omega)] at hj;cases hj
    have hkl:k<high.length-1:=by
      rcases Nat.lt_or_ge k (high.length-1) with h|h
      · exact h
      · rw [if_neg (by omega)] at hk;cases hk
    rw [if_pos hjl] at hj
    rw [if_pos hkl] at hk
    have hjn:low[j+1]?=some low[j+1]:=List.getElem?_eq_getElem (by omega)
    have hkn:high[k+1]?=some high[k+1]:=List.getElem?_eq_getElem (by omega)
    by_cases hk0:k=0
    · subst hk0
      rw [q4] at hk
      injection hk with hk
      subst hk
      have h1:=nb_lt hl.rise ⟨j,hj,hjn⟩
      exact not_lt_le h1 (rising_le_last hl.rise l1 (List.mem_of_getElem? hjn))
    · have hku:high[k-1]?=some high[k-1]:=List.getElem?_eq_getElem (by omega)
      have:=across_low hl hh (a:=v) (b:=low[j+1]) ⟨j,hj,hjn⟩ (u:=high[k-1]) (v:=v) (w:=high[k+1]) ⟨k-1,hku,by rw [show k-1+1=k by omega];exact hk⟩ ⟨k,hk,hkn⟩
      rw [(area_ab v _).1] at this
      omega
  · intro a b he v hv hva hvb
    have hm:=ring_mem hl hh h2l h2h l0 l1 g0 g1 hv
    rcases ring_edge hl hh h2l h2h l0 l1 g0 g1 he with h|h
    · rcases hm.1 with h'|⟨u,w,h1,h2⟩
      · exact hl.strict a b h v h' hva hvb
      · exact across_low hl hh h h1 h2
    · rcases hm.2 with h'|⟨u,w,h1,h2⟩
      · exact hh.strict a b h v h' hva hvb
      · exact across_high hl hh h h1 h2
end
def dt (d e:Int) (p:S47):Int:=d*p.f0+e*p.f1
def Sup (S T:List S47):Prop:=∀ d e:Int,∀ s∈S,∃ t∈T,dt d e s≤dt d e t
theorem Sup.refl (S:List S47):Sup S S:=fun d e s hs=>⟨s,hs,Int.le_refl _⟩
theorem Sup.of_sub {S T:List S47} (h : ∀ s∈S,s∈T):Sup S T:=fun d e s hs=>⟨s,h s hs,Int.le_refl _⟩
theorem Sup.trans {S T U:List S47} (h1:Sup S T) (h2:Sup T U):Sup S U:=fun d e s hs=>by
  obtain ⟨t,ht,h⟩:=h1 d e s hs
  obtain ⟨u,hu,h'⟩:=h2 d e t ht
  exact ⟨u,hu,Int.le_trans h h'⟩
theorem max_mem (d e : Int) : ∀ {l : List S47}, l ≠ [] → ∃ v ∈ l, ∀ w ∈ l, dt d e w ≤ dt d e v
  | [],h=>absurd rfl h
  | [a],_=>⟨a,by simp,fun w hw=>by rw [List.mem_singleton.mp hw];exact Int.le_refl _⟩
  | a::b::l,_=>by
    obtain ⟨v,hv,h⟩:=max_mem d e (l:=b::l) (by simp)
    rcases (show dt d e a≤dt d e v∨dt d e v<dt d e a by omega) with k|k
    · exact ⟨v,List.mem_cons_of_mem _ hv,fun w hw=>by rcases List.mem_cons.mp hw with rfl|hw;exact k;exact h w hw⟩
    · exact ⟨a,by simp,fun w hw=>by rcases List.mem_cons.mp hw with rfl|hw;exact Int.le_refl _;have:=h w hw;omega⟩
theorem area_dt (a b p:S47):area a b p = - (dt (b.f1-a.f1) (-(b.f0-a.f0)) p-dt (b.f1-a.f1) (-(b.f0-a.f0)) a):=by unfold area dt;grind
theorem edge_mem {h:List S47} {a b:S47} (he:Edge h a b):a∈h∧b∈h:=by
  obtain ⟨i,_,h1,h2⟩:=he
  exact ⟨List.mem_of_getElem? h1,List.mem_of_getElem? h2⟩
theorem Pen.weak {h:List S47} (hp:Pen h) {a b:S47} (he:Edge h a b) {v:S47} (hv:v∈h):0≤area a b v:=by
  by_cases h1:v=a
  · subst h1;rw [(area_ab v b).1];exact Int.le_refl 0
  · by_cases h2:v=b
    · subst h2;rw [(area_ab a v).2];exact Int.le_refl 0
    · exact Int.le_of_lt (hp.strict a b he v hv h1 h2)
theorem Pen.ne {h:List S47} (hp:Pen h):h≠[]:=by
  obtain ⟨m,hm,_⟩:=hp.first
  rintro rfl;cases hm
theorem sup_left {h:List S47} (hp:Pen h) {S:List S47} (hs:Sup S h) {a b:S47} (he:Edge h a b) {s:S47} (hm:s∈S):0≤area a b s:=by
  obtain ⟨t,ht,hle⟩:=hs (b.f1-a.f1) (-(b.f0-a.f0)) s hm
  have h1:=hp.weak he ht
  rw [area_dt] at h1 ⊢
  omega
theorem edge_next {h:List S47} {v:S47} (hv:v∈h) : ∃ u w,Edge h u v∧Edge h v w∧(3≤h.length→h.Nodup→u≠w∧u≠v∧w≠v):=by
  obtain ⟨j,hj,rfl⟩:=List.mem_iff_getElem.mp hv
  have hn:0<h.length:=by omega
  have hk:(j+(h.length-1)) % h.length<h.length:=Nat.mod_lt _ hn
  have hm:(j+1) % h.length<h.length:=Nat.mod_lt _ hn
  refine ⟨h[(j+(h.length-1)) % h.length],h[(j+1) % h.length],⟨_,hk,List.getElem?_eq_getElem hk,?_⟩,⟨j,hj,List.getElem?_eq_getElem hj,List.getElem?_eq_getElem hm⟩,?_⟩
  · rw [Nat.mod_add_mod,show j+(h.length-1)+1=j+h.length by omega,Nat.add_mod_right,Nat.mod_eq_of_lt hj]
    exact List.getElem?_eq_getElem hj
  · intro h3 hnd
    have inj : ∀ {a b:Nat} (ha:a<h.length) (hb:b<h.length),h[a]=h[b]→a=b:=fun ha hb e=>(List.getElem_inj hnd).mp e
    have c1:(j+1) % h.length=if j+1=h.length then 0 else j+1:=by
      by_cases e:j+1=h.length
      · rw [if_pos e,e,Nat.mod_self]
      · rw [if_neg e,Nat.mod_eq_of_lt (by omega)]
    have c2:(j+(h.length-1)) % h.length=if j=0 then h.length-1 else j-1:=by
      by_cases e:j=0
      · rw [if_pos e,e,Nat.zero_add,Nat.mod_eq_of_lt (by omega)]
      · rw [if_neg e,show j+(h.length-1)=(j-1)+h.length by omega,Nat.add_mod_right,Nat.mod_eq_of_lt (by omega)]
    refine ⟨fun e=>?_,fun e=>?_,fun e=>?_⟩
    · have:=inj _ _ e
      rw [c1,c2] at this
      (repeat' split at this) <;> omega
    · have:=inj _ _ e
      rw [c2] at this
      split at this <;> omega
    · have:=inj _ _ e
      rw [c1] at this
      split at this <;> omega
theorem wedge {u v w s:S47} {d e:Int} (hc:0<area u v w) (h1:0≤area u v s) (h2:0≤area v w s) (d1:dt d e u≤dt d e v) (d2:dt d e w≤dt d e v):dt d e s≤dt d e v:=by
  have key:(dt d e s-dt d e v)*area u v w=area v w s*(- (dt d e v-dt d e u))+area u v s*(dt d e w-dt d e v):=by unfold dt area;grind
  have p1:=Int.mul_nonneg h2 (show 0≤dt d e v-dt d e u by omega)
  have p2:=Int.mul_nonneg h1 (show 0≤dt d e v-dt d e w by omega)
  have e1:area v w s*(- (dt d e v-dt d e u)) = - (area v w s*(dt d e v-dt d e u)):=by grind
  have e2:area u v s*(dt d e w-dt d e v) = - (area u v s*(dt d e v-dt d e w)):=by grind
  rw [e1,e2] at key
  rcases (show dt d e s≤dt d e v∨0<dt d e s-dt d e v by omega) with k|k
  · exact k
  · have:=Int.mul_pos k hc
    omega
theorem left_sup {h:List S47} (hp:Pen h) (h3:3≤h.length) {s:S47} (hl : ∀ a b,Edge h a b→0≤area a b s):Sup [s] h:=by
  intro d e q hq
  obtain rfl:=List.mem_singleton.mp hq
  obtain ⟨v,hv,hm⟩:=max_mem d e hp.ne
  obtain ⟨u,w,e1,e2,hne⟩:=edge_next hv
  obtain ⟨k1,k2,k3⟩:=hne h3 hp.nodup
  exact ⟨v,hv,wedge (hp.strict u v e1 w (edge_mem e2).2 (Ne.symm k1) k3) (hl u v e1) (hl v w e2) (hm u (edge_mem e1).1) (hm w (edge_mem e2).2)⟩
theorem between_sup {a b s:S47} (h0:area a b s=0) (h1:Le a s) (h2:Le s b):Sup [s] [a,b]:=by
  intro d e q hq
  obtain rfl:=List.mem_singleton.mp hq
  rcases h1 with h1|rfl
  · rcases h2 with h2|rfl
    · have hab:=lt_trans h1 h2
      rcases hab with hx|⟨hx,hy⟩
      · have key:(dt d e q-dt d e a)*(b.f0-a.f0)=(dt d e b-dt d e a)*(q.f0-a.f0):=by
          have:(dt d e q-dt d e a)*(b.f0-a.f0)-(dt d e b-dt d e a)*(q.f0-a.f0)=e*area a b q:=by unfold dt area;grind
          rw [h0] at this;omega
        have q0:0≤q.f0-a.f0:=lp_x h1
        have q1:q.f0-a.f0≤b.f0-a.f0:=by have:=lp_x h2;omega
        rcases (show 0≤dt d e b-dt d e a∨dt d e b-dt d e a<0 by omega) with k|k
        · refine ⟨b,by simp,?_⟩
          rcases (show dt d e q≤dt d e b∨dt d e b-dt d e a<dt d e q-dt d e a by omega) with m|m
          · exact m
          · exfalso
            have m1:=Int.mul_lt_mul_of_pos_right m hx
            have m2:=Int.mul_le_mul_of_nonneg_left q1 k
            omega
        · refine ⟨a,by simp,?_⟩
          rcases (show dt d e q≤dt d e a∨0<dt d e q-dt d e a by omega) with m|m
          · exact m
          · exfalso
            have m1:=Int.mul_pos m hx
            have m2:=Int.mul_nonneg (show 0≤-(dt d e b-dt d e a) by omega) q0
            have m3 : -(dt d e b-dt d e a)*(q.f0-a.f0) = -((dt d e b-dt d e a)*(q.f0-a.f0)):=by grind
            omega
      · have hqx:q.f0=a.f0:=by have:=lp_x h1;have:=lp_x h2;omega
        have q0:0≤q.f1-a.f1:=by unfold Lt Lp at h1;omega
        have q1:q.f1-a.f1≤b.f1-a.f1:=by unfold Lt Lp at h2;omega
        have hbx:b.f0=a.f0:=by omega
        have e1:dt d e q=d*a.f0+e*q.f1:=by unfold dt;rw [hqx]
        have e2:dt d e b=d*a.f0+e*b.f1:=by unfold dt;rw [hbx]
        have e3:dt d e a=d*a.f0+e*a.f1:=rfl
        rcases (show 0≤e∨e<0 by omega) with k|k
        · refine ⟨b,by simp,?_⟩
          have:=Int.mul_le_mul_of_nonneg_left (show q.f1≤b.f1 by omega) k
          omega
        · refine ⟨a,by simp,?_⟩
          have m1:=Int.mul_nonneg (show 0≤-e by omega) q0
          have m2 : -e*(q.f1-a.f1)=e*a.f1-e*q.f1:=by grind
          omega
    · exact ⟨q,by simp,Int.le_refl _⟩
  · exact ⟨a,by simp,Int.le_refl _⟩
structure IsHull (S h:List S47):Prop where
  sub : ∀ v∈h,v∈S
  pen:Pen h
  sup:Sup S h
theorem sup_point {S T:List S47} (h : ∀ s∈S,Sup [s] T):Sup S T:=fun d e s hs=>h s hs d e s (by simp)
theorem pen_one (p:S47):Pen [p] :=
  ⟨⟨p,rfl,fun v hv=>.inr (List.mem_singleton.mp hv).symm⟩,by simp,fun a b he v hv h1 _=>absurd ((List.mem_singleton.mp hv).trans (List.mem_singleton.mp (edge_mem he).1).symm) h1⟩
theorem pen_two {p q:S47} (h:Lt p q):Pen [p,q]:=by
  have hne:p≠q:=by rintro rfl;exact lt_irrefl h
  refine ⟨⟨p,rfl,fun v hv=>?_⟩,by simp [hne],fun a b he v hv h1 h2=>?_⟩
  · rcases List.mem_cons.mp hv with rfl|hv
    · exact .inr rfl
    · rw [List.mem_singleton.mp hv];exact .inl h
  · exfalso
    obtain ⟨i,hi,ha,hb⟩:=he
    have hi2:i<2:=hi
    have:i=0∨i=1:=by omega
    rcases this with rfl|rfl
    · simp at ha hb
      subst ha;subst hb
      rcases List.mem_cons.mp hv with rfl|hv
      · exact h1 rfl
      · exact h2 (List.mem_singleton.mp hv)
    · simp at ha hb
      subst ha;subst hb
      rcases List.mem_cons.mp hv with rfl|hv
      · exact h2 rfl
      · exact h1 (List.mem_singleton.mp hv)
def hullR (S:List S47):List S47:=if S.length<3 then S else ring (chainR S).reverse (chainR S.reverse).reverse
theorem rising_two {S:List S47} {x y:S47} (h:Rising S) (hx:x∈S) (hy:y∈S) (hne:x≠y) (st:List S47) (mn mx:S47) (h0:st.head?=some mn) (h1:st.getLast?=some mx) (hmn:S.head?=some mn) (hmx:S.getLast?=some mx):2≤st.length:=by
  cases st with
  | nil=>cases h0
  | cons a r =>
    cases r with
    | cons b r=>simp
    | nil =>
      exfalso
      have e1:a=mn:=by simpa using h0
      have e2:a=mx:=by simpa using h1
      have a1:=rising_head_le h hmn hx
      have a2:=rising_le_last h hmx hx
      have a3:=rising_head_le h hmn hy
      have a4:=rising_le_last h hmx hy
      subst e1
      subst e2
      have:x=a:=by
        rcases a1 with k|k
        · exact (not_lt_le k a2).elim
        · exact k.symm
      have:y=a:=by
        rcases a3 with k|k
        · exact (not_lt_le k a4).elim
        · exact k.symm
      simp_all
theorem hull_rising {S:List S47} (h:Rising S) (hne:S≠[]):IsHull S (hullR S):=by
  unfold hullR
  by_cases h3:S.length<3
  · rw [if_pos h3]
    match S,h,hne,h3 with
    | [a],_,_,_=>exact ⟨fun v hv=>hv,pen_one a,Sup.refl _⟩
    | [a,b],h,_,_=>exact ⟨fun v hv=>hv,pen_two ((List.pairwise_cons.mp h).1 b (by simp)),Sup.refl _⟩
  · rw [if_neg h3]
    have hl:=half_of h
    have hh:=halfUp_of h
    have i1:=chain_inv S h
    have i2:=chain_inv _ (rising_rev h)
    rw [chainR_ng] at i2
    obtain ⟨mn,hmn⟩ : ∃ m,S.head?=some m:=by cases S with|nil=>exact absurd rfl hne|cons a r=>exact ⟨a,rfl⟩
    obtain ⟨mx,hmx⟩ : ∃ m,S.getLast?=some m:=by
      cases hq:S.getLast? with
      | none=>exact absurd (List.getLast?_eq_none_iff.mp hq) hne
      | some m=>exact ⟨m,rfl⟩
    have l0:(chainR S).reverse.head?=some mn:=by rw [List.head?_reverse,i1.last,hmn]
    have l1:(chainR S).reverse.getLast?=some mx:=by rw [List.getLast?_reverse,i1.head,hmx]
    have inj : ∀ {o:Option S47} {m:S47},o.map ng=some (ng m)→o=some m:=fun {o m} e=>by
      cases o with
      | none=>cases e
      | some x=>rw [ng_inj (Option.some.inj e)]
    have g0:(chainR S.reverse).reverse.head?=some mx:=by
      rw [List.head?_reverse]
      apply inj
      rw [← List.getLast?_map,i2.last,List.head?_map,List.head?_reverse,hmx];rfl
    have g1:(chainR S.reverse).reverse.getLast?=some mn:=by
      rw [List.getLast?_reverse]
      apply inj
      rw [← List.head?_map,i2.head,List.getLast?_map,List.getLast?_reverse,hmn];rfl
    have hx:S[0]∈S:=List.getElem_mem _
    have hy:S[1]∈S:=List.getElem_mem _
    have hxy:S[0]≠S[1]:=by
      intro e
      have:=(List.getElem_inj (pairwise_nodup h (fun a=>lt_irrefl))).mp e
      omega
    have k1:=rising_two h hx hy hxy _ mn mx l0 l1 hmn hmx
    have k2:2≤(chainR S.reverse).reverse.length:=by
      have:=rising_two h hx hy hxy (chainR S.reverse) mn mx (by rw [← List.getLast?_reverse];exact g1) (by rw [← List.head?_reverse];exact g0) hmn hmx
      simpa using this
    have hp:=ring_pen hl hh k1 k2 l0 l1 g0 g1
    refine ⟨?_,hp,?_⟩
    · intro v hv
      rcases (ring_mem hl hh k1 k2 l0 l1 g0 g1 hv).1 with h|⟨u,w,h,_⟩
      · exact hl.sub v h
      · exact hh.sub v (nb_mem h).2
    · by_cases hr3:3≤(ring (chainR S).reverse (chainR S.reverse).reverse).length
      · exact sup_point (fun s hs=>left_sup hp hr3 (fun a b he=>ring_weak hl hh k1 k2 l0 l1 g0 g1 he hs))
      ·
        have hn:=ring_len hl hh k1 k2 l0 l1 g0 g1
        have hlow : ∃ a b,(chainR S).reverse=[a,b]:=by
          match (chainR S).reverse,k1,(show (chainR S).reverse.length=2 by omega) with
          | [a,b],_,_=>exact ⟨a,b,rfl⟩
        have hhigh : ∃ a b,(chainR S.reverse).reverse=[a,b]:=by
          match (chainR S.reverse).reverse,k2,(show (chainR S.reverse).reverse.length=2 by omega) with
          | [a,b],_,_=>exact ⟨a,b,rfl⟩
        obtain ⟨a,b,e1⟩:=hlow
        obtain ⟨c,d,e2⟩:=hhigh
        rw [e1] at l0 l1 hl ⊢
        rw [e2] at g0 g1 hh ⊢
        obtain rfl:a=mn:=by simpa using l0
        obtain rfl:b=mx:=by simpa using l1
        obtain rfl:c=b:=by simpa using g0
        obtain rfl:d=a:=by simpa using g1
        refine sup_point (fun s hs=>?_)
        have w1:=hl.weak d c ⟨0,rfl,rfl⟩ s hs
        have w2:=hh.weak c d ⟨0,rfl,rfl⟩ s hs
        exact between_sup (by have : area c d s = - area d c s := by unfold area; grind
                              omega) (rising_head_le h hmn hs) (rising_le_last h hmx hs)
theorem dt_mix (N d e d' e':Int) (p:S47):dt (N*d+d') (N*e+e') p=N*dt d e p+dt d' e' p:=by unfold dt;grind
theorem lex_far (d e d' e' : Int) (v : S47) : ∀ h : List S47, (∀ w ∈ h, dt d e w < dt d e v ∨ dt d e w = dt d e v ∧ dt d' e' w ≤ dt d' e' v) → ∃ N0 : Int, 0 ≤ N0 ∧ ∀ N, N0 ≤ N → ∀ w ∈ h, N * dt d e w + dt d' e' w ≤ N * dt d e v + dt d' e' v
  | [],_=>⟨0,Int.le_refl _,fun _ _ w hw=>by cases hw⟩
  | w::h,hh=>by
    obtain ⟨N0,h0,hN⟩:=lex_far d e d' e' v h (fun x hx=>hh x (List.mem_cons_of_mem _ hx))
    rcases hh w (by simp) with k|⟨k,k'⟩
    · refine ⟨max N0 (dt d' e' w-dt d' e' v),by omega,fun N hn x hx=>?_⟩
      rcases List.mem_cons.mp hx with rfl|hx
      · have h1:0≤N:=by omega
        have h2:dt d' e' x-dt d' e' v≤N:=by omega
        have h3:=Int.mul_le_mul_of_nonneg_left (show dt d e x+1≤dt d e v by omega) h1
        have h4:N*(dt d e x+1)=N*dt d e x+N:=by grind
        omega
      · exact hN N (by omega) x hx
    · refine ⟨N0,h0,fun N hn x hx=>?_⟩
      rcases List.mem_cons.mp hx with rfl|hx
      · rw [k];omega
      · exact hN N hn x hx
theorem lex_sup {S h : List S47} (hs : Sup S h) {d e d' e' : Int} {v : S47} (hv : ∀ w ∈ h, dt d e w < dt d e v ∨ dt d e w = dt d e v ∧ dt d' e' w ≤ dt d' e' v) {s : S47} (hm : s ∈ S) :
    dt d e s≤dt d e v∧(dt d e s=dt d e v→dt d' e' s≤dt d' e' v):=by
  refine ⟨?_,fun heq=>?_⟩
  · obtain ⟨t,ht,hle⟩:=hs d e s hm
    rcases hv t ht with k|⟨k,_⟩ <;> omega
  · obtain ⟨N,h0,hN⟩:=lex_far d e d' e' v h hv
    obtain ⟨t,ht,hle⟩:=hs (N*d+d') (N*e+e') s hm
    have:=hN N (Int.le_refl _) t ht
    rw [dt_mix,dt_mix,heq] at hle
    omega
theorem sup_min {S h:List S47} (hs:Sup S h) {m:S47} (hm : ∀ v∈h,Le m v) {s:S47} (hsm:s∈S):Le m s:=by
  have hv : ∀ w∈h,dt (-1) 0 w<dt (-1) 0 m∨dt (-1) 0 w=dt (-1) 0 m∧dt 0 (-1) w≤dt 0 (-1) m:=by
    intro w hw
    have:=hm w hw
    unfold dt
    rcases this with h|rfl
    · unfold Lt Lp at h;omega
    · omega
  have:=lex_sup hs hv hsm
  unfold dt at this
  rcases le_or m s with h|h
  · exact h
  · exfalso;unfold Lt Lp at h;omega
theorem Pen.sharp {h:List S47} (hp:Pen h) {v:S47} (hv:v∈h) : ∃ d e,∀ w∈h,w≠v→dt d e w<dt d e v:=by
  by_cases h3:3≤h.length
  · obtain ⟨u,w,e1,e2,hne⟩:=edge_next hv
    obtain ⟨k1,k2,k3⟩:=hne h3 hp.nodup
    refine ⟨(v.f1-u.f1)+(w.f1-v.f1),-(v.f0-u.f0) + -(w.f0-v.f0),fun p hpm hpv=>?_⟩
    have key:dt ((v.f1-u.f1)+(w.f1-v.f1)) (-(v.f0-u.f0) + -(w.f0-v.f0)) p-dt ((v.f1-u.f1)+(w.f1-v.f1)) (-(v.f0-u.f0) + -(w.f0-v.f0)) v = - area u v p-area v w p:=by unfold dt area;grind
    have w1:=hp.weak e1 hpm
    have w2:=hp.weak e2 hpm
    by_cases hpu:p=u
    · subst hpu
      have:=hp.strict v w e2 p hpm k2 k1
      omega
    · have:=hp.strict u v e1 p hpm hpu hpv
      omega
  · match h,hp,h3,hv with
    | [],hp,_,_=>exact absurd rfl hp.ne
    | [a],_,_,hv=>exact ⟨0,0,fun w hw hne=>absurd ((List.mem_singleton.mp hw).trans (List.mem_singleton.mp hv).symm) hne⟩
    | [a,b],_,_,hv =>
      have sq : ∀ x y:S47,x≠y→dt (y.f0-x.f0) (y.f1-x.f1) x<dt (y.f0-x.f0) (y.f1-x.f1) y:=by
        intro x y hne
        have key:dt (y.f0-x.f0) (y.f1-x.f1) y-dt (y.f0-x.f0) (y.f1-x.f1) x=(y.f0-x.f0)*(y.f0-x.f0)+(y.f1-x.f1)*(y.f1-x.f1):=by unfold dt;grind
        have p1 : ∀ z:Int,0≤z*z:=fun z=>by rcases (show 0≤z∨z≤0 by omega) with k|k;exact Int.mul_nonneg k k;exact Int.mul_nonneg_of_nonpos_of_nonpos k k
        have p2 : ∀ z:Int,z≠0→0<z*z:=fun z hz=>by rcases (show 0<z∨z<0 by omega) with k|k;exact Int.mul_pos k k;exact Int.mul_pos_of_neg_of_neg k k
        by_cases h0:y.f0-x.f0=0
        · by_cases h1:y.f1-x.f1=0
          · exact absurd (ptx (by omega) (by omega)) hne
          · have:=p2 _ h1;have:=p1 (y.f0-x.f0);omega
        · have:=p2 _ h0;have:=p1 (y.f1-x.f1);omega
      rcases List.mem_cons.mp hv with rfl|hv
      · exact ⟨v.f0-b.f0,v.f1-b.f1,fun w hw hne=>by
          rcases List.mem_cons.mp hw with rfl|hw
          · exact absurd rfl hne
          · obtain rfl:=List.mem_singleton.mp hw;exact sq w v hne⟩
      · obtain rfl:=List.mem_singleton.mp hv
        exact ⟨v.f0-a.f0,v.f1-a.f1,fun w hw hne=>by
          rcases List.mem_cons.mp hw with rfl|hw
          · exact sq w v hne
          · exact absurd (List.mem_singleton.mp hw) hne⟩
    | _::_::_::_,_,h3,_=>exact absurd (by simp) h3
theorem sup_mem {h h':List S47} (hp:Pen h) (s1:Sup h h') (s2:Sup h' h) {v:S47} (hv:v∈h):v∈h':=by
  obtain ⟨d,e,hsh⟩:=hp.sharp hv
  obtain ⟨t,ht,hle⟩:=s1 d e v hv
  have far : ∀ d' e':Int,dt d e t≤dt d e v∧(dt d e t=dt d e v→dt d' e' t≤dt d' e' v):=fun d' e' =>
    lex_sup s2 (fun w hw=>by
      by_cases hwv:w=v
      · subst hwv;exact .inr ⟨rfl,Int.le_refl _⟩
      · exact .inl (hsh w hw hwv)) ht
  have heq:dt d e t=dt d e v:=by have:=(far 0 0).1;omega
  have f1:=(far 1 0).2 heq
  have f2:=(far (-1) 0).2 heq
  have f3:=(far 0 1).2 heq
  have f4:=(far 0 (-1)).2 heq
  unfold dt at f1 f2 f3 f4
  have:t=v:=ptx (by omega) (by omega)
  rw [← this];exact ht
theorem edge_ne {h:List S47} (hp:Pen h) (h2:2≤h.length) {a b:S47} (he:Edge h a b):a≠b:=by
  rintro rfl
  obtain ⟨i,hi,ha,hb⟩:=he
  have hm:(i+1) % h.length<h.length:=Nat.mod_lt _ (by omega)
  rw [List.getElem?_eq_getElem hi] at ha
  rw [List.getElem?_eq_getElem hm] at hb
  have:=(List.getElem_inj hp.nodup).mp (Option.some.inj (ha.trans hb.symm))
  by_cases e:i+1=h.length
  · rw [e,Nat.mod_self] at this;omega
  · rw [Nat.mod_eq_of_lt (by omega)] at this;omega
theorem edge_same {h h':List S47} (hp:Pen h) (hp':Pen h') (h2':2≤h'.length) (h2:2≤h.length) (m1 : ∀ v∈h,v∈h') (m2 : ∀ v∈h',v∈h) {a b b':S47} (he:Edge h a b) (he':Edge h' a b'):b=b':=by
  by_cases hb:b'=b
  · exact hb.symm
  · exfalso
    have a1:=hp.strict a b he b' (m2 _ (edge_mem he').2) (Ne.symm (edge_ne hp' h2' he')) hb
    have a2:=hp'.strict a b' he' b (m1 _ (edge_mem he).2) (Ne.symm (edge_ne hp h2 he)) (Ne.symm hb)
    have:area a b' b = - area a b b':=by unfold area;grind
    omega
theorem pen_get {h:List S47} {i:Nat} (hi:i+1<h.length):Edge h h[i] h[i+1] :=
  ⟨i,by omega,List.getElem?_eq_getElem (by omega),by rw [Nat.mod_eq_of_lt hi];exact List.getElem?_eq_getElem hi⟩
theorem pen_last {h:List S47} (h0:0<h.length):Edge h h[h.length-1] h[0] :=
  ⟨h.length-1,by omega,List.getElem?_eq_getElem (by omega),by rw [show h.length-1+1=h.length by omega,Nat.mod_self];exact List.getElem?_eq_getElem h0⟩
theorem le_anti {a b:S47} (h1:Le a b) (h2:Le b a):a=b:=by
  rcases h1 with h1|h1
  · exact (not_lt_le h1 h2).elim
  · exact h1
theorem pen_least {h:List S47} (hp:Pen h) (h0:0<h.length) : ∀ v∈h,Le h[0] v:=by
  obtain ⟨m,hm,hl⟩:=hp.first
  rw [List.head?_eq_getElem?,List.getElem?_eq_getElem h0] at hm
  rw [Option.some.inj hm];exact hl
theorem pen_unique_le {h h':List S47} (hp:Pen h) (hp':Pen h') (s1:Sup h h') (s2:Sup h' h) (hle:h.length≤h'.length):h=h':=by
  have m1 : ∀ v∈h,v∈h':=fun v hv=>sup_mem hp s1 s2 hv
  have m2 : ∀ v∈h',v∈h:=fun v hv=>sup_mem hp' s2 s1 hv
  have h0:0<h.length:=by have:=hp.ne;have:=List.length_pos_iff.mpr this;exact this
  have first:h[0]=h'[0]:=le_anti (pen_least hp h0 _ (m2 _ (List.getElem_mem _))) (pen_least hp' (by omega) _ (m1 _ (List.getElem_mem _)))
  by_cases h2:2≤h.length
  · have all : ∀ i (hi:i<h.length),h[i]=h'[i]:=by
      intro i
      induction i with
      | zero=>intro hi;exact first
      | succ i ih =>
        intro hi
        have e1:=pen_get (h:=h) hi
        have e2:=pen_get (h:=h') (i:=i) (by omega)
        rw [← ih (by omega)] at e2
        exact edge_same hp hp' (by omega) h2 m1 m2 e1 e2
    have hlen:h.length=h'.length:=by
      rcases Nat.lt_or_ge h.length h'.length with hlt|hge
      · exfalso
        have e1:=pen_last (h:=h) h0
        have e2:=pen_get (h:=h') (i:=h.length-1) (by omega)
        rw [← all (h.length-1) (by omega)] at e2
        have:=edge_same hp hp' (by omega) h2 m1 m2 e1 e2
        rw [first] at this
        have:=(List.getElem_inj hp'.nodup).mp this
        omega
      · omega
    exact List.ext_getElem hlen (fun i h1 h2=>all i h1)
  · obtain ⟨a,ha⟩:=List.length_eq_one_iff.mp (show h.length=1 by omega)
    have hall : ∀ v∈h',v=a:=fun v hv=>by have:=m2 v hv;rw [ha] at this;exact List.mem_singleton.mp this
    have hne:=hp'.ne
    have hnd:=hp'.nodup
    rw [ha]
    cases h' with
    | nil=>exact absurd rfl hne
    | cons b r =>
      cases r with
      | nil=>rw [hall b (by simp)]
      | cons c r =>
        exfalso
        have e1:=hall b (by simp)
        have e2:=hall c (by simp)
        have:=(List.nodup_cons.mp hnd).1
        rw [e1,e2] at this
        simp at this
theorem pen_unique {h h':List S47} (hp:Pen h) (hp':Pen h') (s1:Sup h h') (s2:Sup h' h):h=h':=by
  rcases Nat.le_total h.length h'.length with hle|hle
  · exact pen_unique_le hp hp' s1 s2 hle
  · exact (pen_unique_le hp' hp s2 s1 hle).symm
theorem hull_unique {S T h h':List S47} (h1:IsHull S h) (h2:IsHull T h') (s1:Sup S T) (s2:Sup T S):h=h' :=
  pen_unique h1.pen h2.pen ((Sup.of_sub h1.sub).trans (s1.trans h2.sup)) ((Sup.of_sub h2.sub).trans (s2.trans h1.sup))
def InBox (h:List S47) (s:S47):Prop:=(∃ v∈h,v.f0≤s.f0)∧(∃ v∈h,s.f0≤v.f0)∧(∃ v∈h,v.f1≤s.f1)∧(∃ v∈h,s.f1≤v.f1)
theorem has_iff {h:List S47} (hp:Pen h) (s:S47):(InBox h s∧∀ a b,Edge h a b→0≤area a b s)↔Sup [s] h:=by
  constructor
  · rintro ⟨⟨⟨v1,m1,b1⟩,⟨v2,m2,b2⟩,⟨v3,m3,b3⟩,⟨v4,m4,b4⟩⟩,hl⟩
    by_cases h3:3≤h.length
    · exact left_sup hp h3 hl
    · match h,hp,h3,hl,m1,m2,m3,m4 with
      | [],hp,_,_,_,_,_,_=>exact absurd rfl hp.ne
      | [a],_,_,_,m1,m2,m3,m4 =>
        obtain rfl:=List.mem_singleton.mp m1
        obtain rfl:=List.mem_singleton.mp m2
        obtain rfl:=List.mem_singleton.mp m3
        obtain rfl:=List.mem_singleton.mp m4
        have:s=v4:=ptx (by omega) (by omega)
        rw [this];exact Sup.refl _
      | [a,b],hp,_,hl,m1,m2,m3,m4 =>
        have hab:Lt a b:=by
          have:=pen_least hp (by simp) b (by simp)
          rcases this with h|h
          · exact h
          · have hn:=(List.nodup_cons.mp hp.nodup).1
            exact absurd (show a∈[b] by simpa using h) hn
        have w1:=hl a b (pen_get (h:=[a,b]) (i:=0) (by simp))
        have w2:=hl b a (pen_last (h:=[a,b]) (by simp))
        have h0 : area a b s = 0 := by have : area b a s = - area a b s := by unfold area; grind
                                       omega
        simp only [List.mem_cons,List.not_mem_nil,or_false] at m1 m2 m3 m4
        have hx1:a.f0≤s.f0:=by have:=lp_x hab;rcases m1 with rfl|rfl <;> omega
        have hx2:s.f0≤b.f0:=by have:=lp_x hab;rcases m2 with rfl|rfl <;> omega
        refine between_sup h0 ?_ ?_
        · rcases le_or a s with k|k
          · exact k
          · exfalso
            have hsx:s.f0=a.f0:=by have:=lp_x k;omega
            have hsy:s.f1<a.f1:=by unfold Lt Lp at k;omega
            rcases hab with hab|⟨hab,hab'⟩
            · unfold area at h0
              rw [hsx,Int.sub_self,Int.mul_zero] at h0
              rcases Int.mul_eq_zero.mp (by omega:(b.f0-a.f0)*(s.f1-a.f1)=0) with z|z <;> omega
            · rcases m3 with rfl|rfl <;> omega
        · rcases le_or s b with k|k
          · exact k
          · exfalso
            have hsx:s.f0=b.f0:=by have:=lp_x k;omega
            have hsy:b.f1<s.f1:=by unfold Lt Lp at k;omega
            rcases hab with hab|⟨hab,hab'⟩
            · unfold area at h0
              rw [hsx] at h0
              have h0':(b.f0-a.f0)*(s.f1-b.f1)=0:=by grind
              rcases Int.mul_eq_zero.mp h0' with z|z <;> omega
            · rcases m4 with rfl|rfl <;> omega
      | _::_::_::_,_,h3,_,_,_,_,_=>exact absurd (by simp) h3
  · intro hs
    refine ⟨⟨?_,?_,?_,?_⟩,fun a b he=>sup_left hp hs he (by simp)⟩
    · obtain ⟨t,ht,h⟩:=hs (-1) 0 s (by simp);exact ⟨t,ht,by unfold dt at h;omega⟩
    · obtain ⟨t,ht,h⟩:=hs 1 0 s (by simp);exact ⟨t,ht,by unfold dt at h;omega⟩
    · obtain ⟨t,ht,h⟩:=hs 0 (-1) s (by simp);exact ⟨t,ht,by unfold dt at h;omega⟩
    · obtain ⟨t,ht,h⟩:=hs 0 1 s (by simp);exact ⟨t,ht,by unfold dt at h;omega⟩
def far (a b:S47):Int:=(a.f0-b.f0)*(a.f0-b.f0)+(a.f1-b.f1)*(a.f1-b.f1)
instance decPt:DecidableEq S47:=fun a b=>if h:a.f0=b.f0∧a.f1=b.f1 then isTrue (ptx h.1 h.2) else isFalse (fun e=>h (by subst e;exact ⟨rfl,rfl⟩))
def stepTo (a nx p:S47):S47:=if p=a then nx else if nx=a∨area a nx p<0∨area a nx p=0∧far a nx<far a p then p else nx
theorem sq_nonneg (z:Int):0≤z*z:=by
  rcases (show 0≤z∨z≤0 by omega) with k|k
  · exact Int.mul_nonneg k k
  · exact Int.mul_nonneg_of_nonpos_of_nonpos k k
theorem sq_pos {z:Int} (h:z≠0):0<z*z:=by
  rcases (show 0<z∨z<0 by omega) with k|k
  · exact Int.mul_pos k k
  · exact Int.mul_pos_of_neg_of_neg k k
theorem sq_two {x y:Int} (h:x*x+y*y=0):x=0∧y=0:=by
  have h1:=sq_nonneg x;have h2:=sq_nonneg y
  constructor
  · by_cases e:x=0
    · exact e
    · have:=sq_pos e;omega
  · by_cases e:y=0
    · exact e
    · have:=sq_pos e;omega
theorem on_edge {S h:List S47} (hh:IsHull S h) {a b s:S47} (h2:2≤h.length) (he:Edge h a b) (hs:s∈S) (h0:area a b s=0):s=a∨s=b∨far a s<far a b:=by
  have hp:=hh.pen
  have hm:=edge_mem he
  have hab:=edge_ne hp h2 he

  have ends:0≤(b.f0-a.f0)*(s.f0-a.f0)+(b.f1-a.f1)*(s.f1-a.f1)∧(b.f0-a.f0)*(s.f0-a.f0)+(b.f1-a.f1)*(s.f1-a.f1)≤(b.f0-a.f0)*(b.f0-a.f0)+(b.f1-a.f1)*(b.f1-a.f1):=by
    by_cases h3:3≤h.length
    · have hBB:0<(b.f0-a.f0)*(b.f0-a.f0)+(b.f1-a.f1)*(b.f1-a.f1):=by
        have p1:=sq_nonneg (b.f0-a.f0);have p2:=sq_nonneg (b.f1-a.f1)
        rcases (show 0<(b.f0-a.f0)*(b.f0-a.f0)+(b.f1-a.f1)*(b.f1-a.f1)∨(b.f0-a.f0)*(b.f0-a.f0)+(b.f1-a.f1)*(b.f1-a.f1)=0 by omega) with k|k
        · exact k
        · have:=sq_two k
          exact absurd (ptx (by omega) (by omega)) hab
      obtain ⟨z,b',ez,eb',hz⟩:=edge_next hm.1
      obtain ⟨a',c,ea',ec,hc⟩:=edge_next hm.2
      obtain ⟨z1,z2,z3⟩:=hz h3 hp.nodup
      obtain ⟨c1,c2,c3⟩:=hc h3 hp.nodup
      have hbb:b'=b:=edge_same hp hp h2 h2 (fun v hv=>hv) (fun v hv=>hv) eb' he
      subst hbb
      have hca:c≠a:=by
        rintro rfl
        have e1:=hp.strict c b' he

        have e2:=hp.strict b' c ec
        obtain ⟨q,hq,hq1,hq2⟩ : ∃ q∈h,q≠c∧q≠b':=⟨z,(edge_mem ez).1,z2,fun e=>z1 e⟩
        have k1:=e1 q hq hq1 hq2
        have k2:=e2 q hq hq2 hq1
        have:area b' c q = - area c b' q:=by unfold area;grind
        omega
      have w1:=sup_left hp hh.sup ez hs
      have w2:=sup_left hp hh.sup ec hs
      have t1:=hp.strict z a ez b' hm.2 (Ne.symm z1) (Ne.symm hab)
      have t2:=hp.strict b' c ec a hm.1 hab (Ne.symm hca)
      have k1:area z a s*((b'.f0-a.f0)*(b'.f0-a.f0)+(b'.f1-a.f1)*(b'.f1-a.f1))=area z a b'*((b'.f0-a.f0)*(s.f0-a.f0)+(b'.f1-a.f1)*(s.f1-a.f1))+((a.f0-z.f0)*(b'.f0-a.f0)+(a.f1-z.f1)*(b'.f1-a.f1))*area a b' s:=by unfold area;grind
      have k2:area b' c s*((b'.f0-a.f0)*(b'.f0-a.f0)+(b'.f1-a.f1)*(b'.f1-a.f1))=area b' c a*(((b'.f0-a.f0)*(b'.f0-a.f0)+(b'.f1-a.f1)*(b'.f1-a.f1))-((b'.f0-a.f0)*(s.f0-a.f0)+(b'.f1-a.f1)*(s.f1-a.f1)))+((c.f0-b'.f0)*(b'.f0-a.f0)+(c.f1-b'.f1)*(b'.f1-a.f1))*area a b' s:=by unfold area;grind
      rw [h0,Int.mul_zero,Int.add_zero] at k1 k2
      have m1:=Int.mul_nonneg w1 (Int.le_of_lt hBB)
      have m2:=Int.mul_nonneg w2 (Int.le_of_lt hBB)
      rw [k1,Int.mul_comm] at m1
      rw [k2,Int.mul_comm] at m2
      have n1:=nonneg_mul m1 t1
      have n2:=nonneg_mul m2 t2
      omega
    · obtain ⟨p,q,e⟩ : ∃ p q,h=[p,q]:=by
        match h,h2,h3 with
        | [p,q],_,_=>exact ⟨p,q,rfl⟩
        | _::_::_::_,_,h3=>exact absurd (by simp) h3
      have all : ∀ w∈h,w=a∨w=b:=by
        rw [e] at hm ⊢
        intro w hw
        simp only [List.mem_cons,List.not_mem_nil,or_false] at hm hw
        rcases hm with ⟨rfl|rfl,rfl|rfl⟩
        · exact absurd rfl hab
        · exact hw
        · exact hw.symm
        · exact absurd rfl hab
      obtain ⟨t,ht,h1⟩:=hh.sup (b.f0-a.f0) (b.f1-a.f1) s hs
      obtain ⟨t',ht',h1'⟩:=hh.sup (-(b.f0-a.f0)) (-(b.f1-a.f1)) s hs
      have g1 : ∀ w,dt (b.f0-a.f0) (b.f1-a.f1) w-dt (b.f0-a.f0) (b.f1-a.f1) a=(b.f0-a.f0)*(w.f0-a.f0)+(b.f1-a.f1)*(w.f1-a.f1):=fun w=>by unfold dt;grind
      have g2 : ∀ w,dt (-(b.f0-a.f0)) (-(b.f1-a.f1)) w = - dt (b.f0-a.f0) (b.f1-a.f1) w:=fun w=>by unfold dt;grind
      have gs:=g1 s
      have gb:=g1 b
      have ga:=g1 a
      rw [g2,g2] at h1'
      have p1:=sq_nonneg (b.f0-a.f0);have p2:=sq_nonneg (b.f1-a.f1)
      rcases all t ht with rfl|rfl <;> rcases all t' ht' with rfl|rfl <;> omega
  have lag:far a b*far a s=((b.f0-a.f0)*(s.f0-a.f0)+(b.f1-a.f1)*(s.f1-a.f1))*((b.f0-a.f0)*(s.f0-a.f0)+(b.f1-a.f1)*(s.f1-a.f1))+area a b s*area a b s:=by unfold far area;grind
  rw [h0,Int.zero_mul,Int.add_zero] at lag
  have hfb:far a b=(b.f0-a.f0)*(b.f0-a.f0)+(b.f1-a.f1)*(b.f1-a.f1):=by unfold far;grind
  have hfs:0≤far a s:=by unfold far;have:=sq_nonneg (a.f0-s.f0);have:=sq_nonneg (a.f1-s.f1);omega
  have hpos:0<far a b:=by
    have p1:=sq_nonneg (a.f0-b.f0);have p2:=sq_nonneg (a.f1-b.f1)
    rcases (show 0<far a b∨far a b=0 by unfold far;omega) with k|k
    · exact k
    · have:=sq_two k
      exact absurd (ptx (by omega) (by omega)) hab
  rw [← hfb] at ends
  obtain ⟨q,hq⟩ : ∃ q,(b.f0-a.f0)*(s.f0-a.f0)+(b.f1-a.f1)*(s.f1-a.f1)=q:=⟨_,rfl⟩
  rw [hq] at ends lag
  rcases (show far a s<far a b∨far a b≤far a s by omega) with k|k
  · exact .inr (.inr k)
  ·
    have m1:=Int.mul_le_mul_of_nonneg_left k (Int.le_of_lt hpos)
    have m2:=Int.mul_le_mul_of_nonneg_left ends.2 ends.1
    have m3:=Int.mul_le_mul_of_nonneg_right ends.2 (Int.le_of_lt hpos)
    have hqq:q=far a b:=by
      rcases (show q=far a b∨q+1≤far a b by omega) with e|e
      · exact e
      · exfalso
        have m4:=Int.mul_le_mul_of_nonneg_left (show q≤far a b-1 by omega) (Int.le_of_lt hpos)
        have m5:far a b*(far a b-1)=far a b*far a b-far a b:=by grind
        have m6:q*far a b=far a b*q:=Int.mul_comm _ _
        omega
    have hss:far a s=far a b:=by
      rw [hqq] at lag
      exact Int.eq_of_mul_eq_mul_left (by omega) lag
    refine .inr (.inl ?_)
    have hz:(s.f0-b.f0)*(s.f0-b.f0)+(s.f1-b.f1)*(s.f1-b.f1)=0:=by
      have e1:(s.f0-b.f0)*(s.f0-b.f0)+(s.f1-b.f1)*(s.f1-b.f1)=far a s+far a b-2*((b.f0-a.f0)*(s.f0-a.f0)+(b.f1-a.f1)*(s.f1-a.f1)):=by unfold far;grind
      rw [e1,hq,hss,hqq];omega
    have:=sq_two hz
    exact ptx (by omega) (by omega)
theorem next_keep {S h:List S47} (hh:IsHull S h) {a b p:S47} (h2:2≤h.length) (he:Edge h a b) (hp:p∈S):stepTo a b p=b:=by
  have hab:=edge_ne hh.pen h2 he
  have hl:=sup_left hh.pen hh.sup he hp
  unfold stepTo
  by_cases e:p=a
  · rw [if_pos e]
  · rw [if_neg e]
    by_cases hc:b=a∨area a b p<0∨area a b p=0∧far a b<far a p
    · rw [if_pos hc]
      rcases hc with hc|hc|⟨h0,hf⟩
      · exact absurd hc.symm hab
      · omega
      · rcases on_edge hh h2 he hp h0 with k|k|k
        · exact absurd k e
        · exact k
        · omega
    · rw [if_neg hc]
theorem next_take {S h:List S47} (hh:IsHull S h) {a b nx:S47} (h2:2≤h.length) (he:Edge h a b) (ht:nx=a∨nx∈S):stepTo a nx b=b:=by
  have hab:=edge_ne hh.pen h2 he
  unfold stepTo
  rw [if_neg (fun e=>hab e.symm)]
  by_cases hta:nx=a
  · rw [if_pos (.inl hta)]
  · have ht:nx∈S:=by
      rcases ht with h|h
      · exact absurd h hta
      · exact h
    have hl:=sup_left hh.pen hh.sup he ht
    have hsw:area a nx b = - area a b nx:=by unfold area;grind
    by_cases h0:area a b nx=0
    · rcases on_edge hh h2 he ht h0 with k|k|k
      · exact absurd k hta
      · rw [k];split <;> rfl
      · rw [if_pos (.inr (.inr ⟨by omega,k⟩))]
    · rw [if_pos (.inr (.inl (by omega)))]
theorem step_in {S:List S47} {a nx p:S47} (hp:p∈S) (ht:nx=a∨nx∈S):stepTo a nx p=a∨stepTo a nx p∈S:=by
  unfold stepTo
  split
  · exact ht
  · split
    · exact .inr hp
    · exact ht
theorem next_keeps {S h : List S47} (hh : IsHull S h) {a b : S47} (h2 : 2 ≤ h.length) (he : Edge h a b) : ∀ (l : List S47), (∀ p ∈ l, p ∈ S) → l.foldl (stepTo a) b = b
  | [],_=>rfl
  | p::l,hl=>by
    rw [List.foldl_cons,next_keep hh h2 he (hl p (by simp))]
    exact next_keeps hh h2 he l (fun q hq=>hl q (List.mem_cons_of_mem _ hq))
theorem next_fold {S h : List S47} (hh : IsHull S h) {a b : S47} (h2 : 2 ≤ h.length) (he : Edge h a b) : ∀ (l : List S47) (nx : S47), (∀ p ∈ l, p ∈ S) → nx = a ∨ nx ∈ S → b ∈ l → l.foldl (stepTo a) nx = b
  | [],_,_,_,hb=>by cases hb
  | p::l,nx,hl,ht,hb=>by
    rw [List.foldl_cons]
    by_cases e:p=b
    · subst e
      rw [next_take hh h2 he ht]
      exact next_keeps hh h2 he l (fun q hq=>hl q (List.mem_cons_of_mem _ hq))
    · refine next_fold hh h2 he l _ (fun q hq=>hl q (List.mem_cons_of_mem _ hq)) (step_in (hl p (by simp)) ht) ?_
      rcases List.mem_cons.mp hb with k|k
      · exact absurd k.symm e
      · exact k
theorem next_all {S h:List S47} (hh:IsHull S h) {a b:S47} (h2:2≤h.length) (he:Edge h a b):S.foldl (stepTo a) a=b :=
  next_fold hh h2 he S a (fun _ h=>h) (.inl rfl) (hh.sub _ (edge_mem he).2)
theorem hull_one {S:List S47} {a:S47} (hh:IsHull S [a]) : ∀ s∈S,s=a:=fun s hs=>by
  obtain ⟨⟨⟨v1,m1,b1⟩,⟨v2,m2,b2⟩,⟨v3,m3,b3⟩,⟨v4,m4,b4⟩⟩,_⟩:=(has_iff hh.pen s).mpr ((Sup.of_sub (fun x hx=>by rw [List.mem_singleton.mp hx];exact hs)).trans hh.sup)
  obtain rfl:=List.mem_singleton.mp m1
  obtain rfl:=List.mem_singleton.mp m2
  obtain rfl:=List.mem_singleton.mp m3
  obtain rfl:=List.mem_singleton.mp m4
  exact ptx (by omega) (by omega)
theorem fold_one {a : S47} : ∀ (l : List S47), (∀ s ∈ l, s = a) → l.foldl (stepTo a) a = a
  | [],_=>rfl
  | p::l,h=>by
    rw [List.foldl_cons,show stepTo a a p=a by unfold stepTo;rw [if_pos (h p (by simp))]]
    exact fold_one l (fun q hq=>h q (List.mem_cons_of_mem _ hq))
theorem hull_least {S h:List S47} (hh:IsHull S h) (h0:0<h.length) : ∀ s∈S,Le h[0] s:=fun s hs=>by
  have hl:=pen_least hh.pen h0
  obtain ⟨N0,hN0,hN⟩:=lex_far (-1) 0 0 (-1) h[0] h (fun w hw=>by
    rcases hl w hw with k|k
    · unfold Lt Lp at k;unfold dt;omega
    · rw [← k];unfold dt;omega)
  have far : ∀ N,N0≤N→N*(h[0].f0-s.f0)+(h[0].f1-s.f1)≤0:=fun N hn=>by
    obtain ⟨t,ht,hle⟩:=hh.sup (N*(-1)+0) (N*0+(-1)) s hs
    rw [dt_mix,dt_mix] at hle
    have:=hN N hn t ht
    have e1:N*(h[0].f0-s.f0)+(h[0].f1-s.f1)=(N*dt (-1) 0 s+dt 0 (-1) s)-(N*dt (-1) 0 h[0]+dt 0 (-1) h[0]):=by unfold dt;grind
    omega
  rcases Int.lt_trichotomy h[0].f0 s.f0 with k|k|k
  · left;unfold Lt Lp;omega
  · have:=far N0 (Int.le_refl _)
    rw [k,Int.sub_self,Int.mul_zero,Int.zero_add] at this
    rcases (show h[0].f1<s.f1∨h[0].f1=s.f1 by omega) with m|m
    · left;unfold Lt Lp;omega
    · right;exact ptx k m
  · exfalso
    have f1:=far (max N0 (s.f1-h[0].f1+1)) (by omega)
    have hd:1≤h[0].f0-s.f0:=by omega
    have hM:0≤max N0 (s.f1-h[0].f1+1):=by omega
    have:=Int.mul_le_mul_of_nonneg_left hd hM
    omega
def goR (S : List S47) (f : S47) : Nat → S47 → List S47 → Option (List S47)
  | 0,_,_=>none
  | k+1,a,out=>if S.foldl (stepTo a) a=f∨S.foldl (stepTo a) a=a then some out else goR S f k (S.foldl (stepTo a) a) (out++[S.foldl (stepTo a) a])
theorem go_round {S h:List S47} (hh:IsHull S h) (h2:2≤h.length) (d:Nat) : ∀ (k i:Nat) (hi:i<h.length),h.length-i=d→d<k+1→goR S h[0] (k+1) h[i] (h.take (i+1))=some h:=by
  induction d with
  | zero=>intro k i hi hd hk;omega
  | succ d ih =>
    intro k i hi hd hk
    have inj : ∀ {a b:Nat} (ha:a<h.length) (hb:b<h.length),h[a]=h[b]→a=b:=fun ha hb e=>(List.getElem_inj hh.pen.nodup).mp e
    by_cases hl:i+1=h.length
    · have he:Edge h h[i] h[0]:=by
        have:=pen_last (h:=h) (by omega)
        simpa only [show h.length-1=i by omega] using this
      unfold goR
      rw [next_all hh h2 he,if_pos (.inl rfl),List.take_of_length_le (by omega)]
    · have he:=pen_get (h:=h) (i:=i) (by omega)
      unfold goR
      rw [next_all hh h2 he,if_neg (by
        rintro (e|e)
        · have:=inj _ _ e;omega
        · have:=inj _ _ e;omega)]
      obtain ⟨k,rfl⟩ : ∃ m,k=m+1:=⟨k-1,by omega⟩
      have:=ih k (i+1) (by omega) (by omega) (by omega)
      rw [show h.take (i+1+1)=h.take (i+1)++[h[i+1]] by rw [List.take_succ_eq_append_getElem]] at this
      exact this
theorem round_is {S h:List S47} (hh:IsHull S h) (h0:0<h.length) (k:Nat) (hk:h.length<k):goR S h[0] k h[0] [h[0]]=some h:=by
  obtain ⟨k,rfl⟩ : ∃ m,k=m+1:=⟨k-1,by omega⟩
  by_cases h2:2≤h.length
  · have:=go_round hh h2 h.length k 0 h0 (by omega) hk
    have e:h.take (0+1)=[h[0]]:=by cases h with|nil=>simp at h0|cons a r=>rfl
    rw [e] at this
    exact this
  · obtain ⟨a,rfl⟩:=List.length_eq_one_iff.mp (show h.length=1 by omega)
    unfold goR
    rw [show [a][0]=a from rfl,fold_one S (hull_one hh),if_pos (.inl rfl)]
theorem hull_len {S h:List S47} (hh:IsHull S h):h.length≤S.length:=hh.pen.nodup.length_le_of_subset (fun v hv=>hh.sub v hv)
theorem pen_hull {h:List S47} (hp:Pen h):IsHull h h:=⟨fun _ h=>h,hp,Sup.refl h⟩
def mv (d p:S47):S47:=⟨p.f0+d.f0,p.f1+d.f1⟩
theorem area_mv (d a b p:S47):area (mv d a) (mv d b) (mv d p)=area a b p:=by unfold area mv;grind
theorem lt_mv {d a b:S47} : Lt (mv d a) (mv d b)↔Lt a b:=by unfold Lt Lp mv;simp only;omega
theorem mv_inj {d a b:S47} (h:mv d a=mv d b):a=b:=by
  have h0:=congrArg S47.f0 h;have h1:=congrArg S47.f1 h
  unfold mv at h0 h1;simp only at h0 h1
  exact ptx (by omega) (by omega)
theorem dt_mv (d e:Int) (q p:S47):dt d e (mv q p)=dt d e p+dt d e q:=by unfold dt mv;grind
theorem edge_map {f:S47→S47} {h:List S47} {a b:S47} (he:Edge (h.map f) a b) : ∃ a' b',a=f a'∧b=f b'∧Edge h a' b':=by
  obtain ⟨i,hi,ha,hb⟩:=he
  rw [List.length_map] at hi hb
  have hm:(i+1) % h.length<h.length:=Nat.mod_lt _ (by omega)
  rw [List.getElem?_map,List.getElem?_eq_getElem hi] at ha
  rw [List.getElem?_map,List.getElem?_eq_getElem hm] at hb
  exact ⟨h[i],h[(i+1) % h.length],(Option.some.inj ha).symm,(Option.some.inj hb).symm,i,hi,List.getElem?_eq_getElem hi,List.getElem?_eq_getElem hm⟩
theorem nodup_map {f:S47→S47} (hf : ∀ a b,f a=f b→a=b) {l:List S47} (h:l.Nodup):(l.map f).Nodup:=by
  unfold List.Nodup at *
  rw [List.pairwise_map]
  exact h.imp (fun {a b} hab e=>hab (hf _ _ e))
theorem pen_mv {h:List S47} (hp:Pen h) (d:S47):Pen (h.map (mv d)):=by
  refine ⟨?_,nodup_map (fun _ _=>mv_inj) hp.nodup,?_⟩
  · obtain ⟨m,hm,hl⟩:=hp.first
    refine ⟨mv d m,by rw [List.head?_map,hm];rfl,fun v hv=>?_⟩
    obtain ⟨x,hx,rfl⟩:=List.mem_map.mp hv
    rcases hl x hx with k|k
    · exact .inl (lt_mv.mpr k)
    · exact .inr (by rw [k])
  · intro a b he v hv h1 h2
    obtain ⟨a',b',rfl,rfl,he'⟩:=edge_map he
    obtain ⟨x,hx,rfl⟩:=List.mem_map.mp hv
    rw [area_mv]
    exact hp.strict a' b' he' x hx (fun e=>h1 (by rw [e])) (fun e=>h2 (by rw [e]))
theorem Sup.mv {S T:List S47} (h:Sup S T) (q:S47):Sup (S.map (mv q)) (T.map (mv q)):=fun d e s hs=>by
  obtain ⟨x,hx,rfl⟩:=List.mem_map.mp hs
  obtain ⟨t,ht,hle⟩:=h d e x hx
  exact ⟨HG.mv q t,List.mem_map.mpr ⟨t,ht,rfl⟩,by rw [dt_mv,dt_mv];omega⟩
theorem dt_ng (d e:Int) (p:S47):dt d e (ng p)=dt (-d) (-e) p:=by unfold dt ng;grind
theorem Sup.ng {S T:List S47} (h:Sup S T):Sup (S.map ng) (T.map ng):=fun d e s hs=>by
  obtain ⟨x,hx,rfl⟩:=List.mem_map.mp hs
  obtain ⟨t,ht,hle⟩:=h (-d) (-e) x hx
  exact ⟨HG.ng t,List.mem_map.mpr ⟨t,ht,rfl⟩,by rw [dt_ng,dt_ng];exact hle⟩
def gr (n:Int) (p:S47):S47:=⟨p.f0*n,p.f1*n⟩
theorem dt_gr (d e n:Int) (p:S47):dt d e (gr n p)=dt d e p*n:=by unfold dt gr;grind
theorem Sup.gr {S T:List S47} (h:Sup S T) {n:Int} (hn:0≤n):Sup (S.map (gr n)) (T.map (gr n)):=fun d e s hs=>by
  obtain ⟨x,hx,rfl⟩:=List.mem_map.mp hs
  obtain ⟨t,ht,hle⟩:=h d e x hx
  exact ⟨HG.gr n t,List.mem_map.mpr ⟨t,ht,rfl⟩,by rw [dt_gr,dt_gr];exact Int.mul_le_mul_of_nonneg_right hle hn⟩
theorem gr_gr (n m:Int) (p:S47):gr m (gr n p)=gr (n*m) p:=by unfold gr;simp only [Int.mul_assoc]
def sums (A B:List S47):List S47:=A.flatMap fun p=>B.map (mv p)
theorem mem_sums {A B:List S47} {s:S47} : s∈sums A B↔∃ p∈A,∃ q∈B,s=mv p q:=by
  unfold sums
  rw [List.mem_flatMap]
  constructor
  · rintro ⟨p,hp,hs⟩
    obtain ⟨q,hq,rfl⟩:=List.mem_map.mp hs
    exact ⟨p,hp,q,hq,rfl⟩
  · rintro ⟨p,hp,q,hq,rfl⟩
    exact ⟨p,hp,List.mem_map.mpr ⟨q,hq,rfl⟩⟩
theorem Sup.sums {A B A' B':List S47} (h1:Sup A A') (h2:Sup B B'):Sup (sums A B) (sums A' B'):=fun d e s hs=>by
  obtain ⟨p,hp,q,hq,rfl⟩:=mem_sums.mp hs
  obtain ⟨p',hp',l1⟩:=h1 d e p hp
  obtain ⟨q',hq',l2⟩:=h2 d e q hq
  exact ⟨HG.mv p' q',mem_sums.mpr ⟨p',hp',q',hq',rfl⟩,by rw [dt_mv,dt_mv];omega⟩
theorem mv_comm (p q:S47):mv p q=mv q p:=by unfold mv;simp only [Int.add_comm]
theorem mv_assoc (p q r:S47):mv (mv p q) r=mv p (mv q r):=by apply ptx <;> (unfold mv;simp only;omega)
theorem sums_comm (A B:List S47):Sup (sums A B) (sums B A):=Sup.of_sub fun s hs=>by
  obtain ⟨p,hp,q,hq,rfl⟩:=mem_sums.mp hs
  exact mem_sums.mpr ⟨q,hq,p,hp,mv_comm p q⟩
theorem sums_assoc (A B C:List S47):Sup (sums (sums A B) C) (sums A (sums B C))∧Sup (sums A (sums B C)) (sums (sums A B) C):=by
  refine ⟨Sup.of_sub fun s hs=>?_,Sup.of_sub fun s hs=>?_⟩
  · obtain ⟨x,hx,r,hr,rfl⟩:=mem_sums.mp hs
    obtain ⟨p,hp,q,hq,rfl⟩:=mem_sums.mp hx
    exact mem_sums.mpr ⟨p,hp,mv q r,mem_sums.mpr ⟨q,hq,r,hr,rfl⟩,mv_assoc p q r⟩
  · obtain ⟨p,hp,x,hx,rfl⟩:=mem_sums.mp hs
    obtain ⟨q,hq,r,hr,rfl⟩:=mem_sums.mp hx
    exact mem_sums.mpr ⟨mv p q,mem_sums.mpr ⟨p,hp,q,hq,rfl⟩,r,hr,(mv_assoc p q r).symm⟩
theorem Sup.append {S T S' T':List S47} (h1:Sup S S') (h2:Sup T T'):Sup (S++T) (S'++T'):=fun d e s hs=>by
  rcases List.mem_append.mp hs with h|h
  · obtain ⟨t,ht,hle⟩:=h1 d e s h
    exact ⟨t,List.mem_append_left _ ht,hle⟩
  · obtain ⟨t,ht,hle⟩:=h2 d e s h
    exact ⟨t,List.mem_append_right _ ht,hle⟩
theorem IsHull.mv {S h:List S47} (hh:IsHull S h) (q:S47):IsHull (S.map (mv q)) (h.map (mv q)) :=
  ⟨fun v hv=>by obtain ⟨x,hx,rfl⟩:=List.mem_map.mp hv;exact List.mem_map.mpr ⟨x,hh.sub x hx,rfl⟩,pen_mv hh.pen q,hh.sup.mv q⟩
theorem hull_box {S h:List S47} (hh:IsHull S h) (x0 x1 y0 y1:Int):(∀ p∈S,x0≤p.f0∧p.f0≤x1∧y0≤p.f1∧p.f1≤y1)↔(∀ p∈h,x0≤p.f0∧p.f0≤x1∧y0≤p.f1∧p.f1≤y1):=by
  constructor
  · exact fun k p hp=>k p (hh.sub p hp)
  · intro k p hp
    obtain ⟨⟨⟨v1,m1,b1⟩,⟨v2,m2,b2⟩,⟨v3,m3,b3⟩,⟨v4,m4,b4⟩⟩,_⟩:=(has_iff hh.pen p).mpr ((Sup.of_sub (fun x hx=>by rw [List.mem_singleton.mp hx];exact hp)).trans hh.sup)
    have:=k v1 m1;have:=k v2 m2;have:=k v3 m3;have:=k v4 m4
    omega
theorem turn_about {A:List S47} {p s:S47} (h:Sup [s] (A.map (mv p))):Sup [p] ((A.map ng).map (mv s)):=by
  have h1:=(h.ng).mv (mv s p)
  have e1:([s].map ng).map (mv (mv s p))=[p]:=by
    simp only [List.map_cons,List.map_nil,List.cons.injEq,and_true]
    apply ptx <;> (unfold mv ng;simp only;omega)
  have e2:((A.map (mv p)).map ng).map (mv (mv s p))=(A.map ng).map (mv s):=by
    rw [List.map_map,List.map_map,List.map_map]
    refine List.map_congr_left (fun x _=>?_)
    simp only [Function.comp]
    apply ptx <;> (unfold mv ng;simp only;omega)
  rw [e1,e2] at h1
  exact h1
theorem far_sums {A B S:List S47} (hs:IsHull (sums A B) S) {d e:Int} {x y z:S47} (hx:x∈A) (hx' : ∀ w∈A,dt d e w≤dt d e x) (hy:y∈B) (hy' : ∀ w∈B,dt d e w≤dt d e y) (hz:z∈S) (hz' : ∀ w∈S,dt d e w≤dt d e z):dt d e x+dt d e y=dt d e z:=by
  obtain ⟨p,hp,q,hq,rfl⟩:=mem_sums.mp (hs.sub z hz)
  have h1:=hx' p hp;have h2:=hy' q hq
  obtain ⟨t,ht,hle⟩:=hs.sup d e (mv x y) (mem_sums.mpr ⟨x,hx,y,hy,rfl⟩)
  have h3:=hz' t ht
  rw [dt_mv] at hle h3 ⊢
  omega
end Go.Proofs.YtckjlckhjcbddaaGreat.PG3.Pn.HG
