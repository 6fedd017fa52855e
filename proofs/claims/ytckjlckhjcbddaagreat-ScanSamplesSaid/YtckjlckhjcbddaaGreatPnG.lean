import Derived.Test.YtckjlckhjcbddaaGreatPnHull
set_option linter.unusedVariables false
namespace Go.Proofs.YtckjlckhjcbddaaGreat.Geo
def Up (x y:Int):Prop:=0<y∨y=0∧0<x
def crs (a b c d:Int):Int:=a*d-b*c
theorem up_y {x y:Int} (h:Up x y):0≤y:=by unfold Up at h;omega
theorem crs_swap (a b c d:Int):crs c d a b = - crs a b c d:=by unfold crs;grind
theorem crs_neg (a b c d:Int):crs a b (-c) (-d) = - crs a b c d:=by unfold crs;grind
theorem crs_neg' (a b c d:Int):crs (-a) (-b) c d = - crs a b c d:=by unfold crs;grind
theorem crs_neg2 (a b c d:Int):crs (-a) (-b) (-c) (-d)=crs a b c d:=by unfold crs;grind
theorem key3 (a b c d e f:Int):crs a b e f*d=crs a b c d*f+crs c d e f*b:=by unfold crs;grind
theorem pos_of_mul {x y:Int} (h:0<x*y) (hy:0<y):0<x:=by
  rcases Int.lt_trichotomy x 0 with h1|h1|h1
  · have:=Int.mul_neg_of_neg_of_pos h1 hy;omega
  · subst h1;simp at h
  · exact h1
theorem nonneg_of_mul {x y:Int} (h:0≤x*y) (hy:0<y):0≤x:=by
  rcases (show x<0∨0≤x by omega) with h1|h1
  · have:=Int.mul_neg_of_neg_of_pos h1 hy;omega
  · exact h1
theorem up_trans {a b c d e f:Int} (h1:Up a b) (h2:Up c d) (h3:Up e f) (h12:0<crs a b c d) (h23:0<crs c d e f):0<crs a b e f:=by
  have y1:=up_y h1;have y3:=up_y h3
  rcases h2 with h2|⟨h2,h2'⟩
  · apply pos_of_mul (y:=d) _ h2
    rw [key3 a b c d e f]
    have p1:=Int.mul_nonneg (Int.le_of_lt h12) y3
    have p2:=Int.mul_nonneg (Int.le_of_lt h23) y1
    rcases (show 0<f∨f≤0 by omega) with hf|hf
    · have:=Int.mul_pos h12 hf;omega
    · rcases (show 0<b∨b≤0 by omega) with hb|hb
      · have:=Int.mul_pos h23 hb;omega
      · exfalso
        have hf0:f=0:=by omega
        have he:0<e:=by unfold Up at h3;omega
        unfold crs at h23
        rw [hf0,Int.mul_zero] at h23
        have:=Int.mul_pos h2 he
        omega
  · exfalso
    unfold crs at h12
    rw [h2,Int.mul_zero] at h12
    have:=Int.mul_nonneg y1 (Int.le_of_lt h2')
    omega
theorem up_weak {a b c d e f:Int} (h1:Up a b) (h2:Up c d) (h3:Up e f) (h12:0≤crs a b c d) (h23:0<crs c d e f):0≤crs a b e f:=by
  have y1:=up_y h1;have y3:=up_y h3
  rcases h2 with h2|⟨h2,h2'⟩
  · apply nonneg_of_mul (y:=d) _ h2
    rw [key3 a b c d e f]
    have p1:=Int.mul_nonneg h12 y3
    have p2:=Int.mul_nonneg (Int.le_of_lt h23) y1
    omega
  · unfold crs at h12 ⊢
    rw [h2,Int.mul_zero] at h12
    have hb:b=0:=by
      rcases (show 0<b∨b≤0 by omega) with hb|hb
      · have:=Int.mul_pos hb h2';omega
      · omega
    have ha:0<a:=by unfold Up at h1;omega
    rw [hb,Int.zero_mul]
    have:=Int.mul_nonneg (Int.le_of_lt ha) y3
    omega
theorem up_or {x y:Int} (h:x≠0∨y≠0):Up x y∨Up (-x) (-y):=by unfold Up;omega
theorem up_not {x y:Int} (h:Up x y) : ¬ Up (-x) (-y):=by unfold Up at *;omega
theorem ne_of_crs {a b c d:Int} (h:0<crs a b c d):(a≠0∨b≠0)∧(c≠0∨d≠0):=by
  unfold crs at h
  constructor
  · rcases Decidable.em (a=0) with h1|h1
    · rcases Decidable.em (b=0) with h2|h2
      · subst h1 h2;simp at h
      · exact Or.inr h2
    · exact Or.inl h1
  · rcases Decidable.em (c=0) with h1|h1
    · rcases Decidable.em (d=0) with h2|h2
      · subst h1 h2;simp at h
      · exact Or.inr h2
    · exact Or.inl h1
section
variable (X Y:Nat→Int) (n:Nat)
def ex (j:Nat):Int:=X (j+1)-X j
def cr (i j:Nat):Int:=crs (ex X i) (ex Y i) (ex X j) (ex Y j)
def side (i k:Nat):Int:=crs (ex X i) (ex Y i) (X k-X i) (Y k-Y i)
theorem side_step (i k:Nat):side X Y i (k+1)=side X Y i k+cr X Y i k:=by unfold side cr crs ex;grind
theorem side_self (i:Nat):side X Y i i=0:=by unfold side crs;simp
theorem cr_self (i:Nat):cr X Y i i=0:=by unfold cr crs;grind
theorem cr_swap (i j:Nat):cr X Y j i = - cr X Y i j:=crs_swap _ _ _ _
structure Closed:Prop where
  x : ∀ j,X (j+n)=X j
  y : ∀ j,Y (j+n)=Y j
variable {X Y n}
theorem ex_per (h:Closed X Y n) (j:Nat):ex X (j+n)=ex X j∧ex Y (j+n)=ex Y j:=by
  unfold ex
  rw [show j+n+1=j+1+n by omega,h.x,h.x,h.y,h.y]
  exact ⟨rfl,rfl⟩
theorem cr_per (h:Closed X Y n) (i j:Nat):cr X Y i (j+n)=cr X Y i j∧cr X Y (i+n) j=cr X Y i j:=by
  unfold cr
  rw [(ex_per h j).1,(ex_per h j).2,(ex_per h i).1,(ex_per h i).2]
  exact ⟨rfl,rfl⟩
theorem side_per (h:Closed X Y n) (i k:Nat):side X Y i (k+n)=side X Y i k∧side X Y (i+n) k=side X Y i k:=by
  unfold side
  rw [(ex_per h i).1,(ex_per h i).2,h.x,h.y,h.x,h.y]
  exact ⟨rfl,rfl⟩
def Dn (X Y:Nat→Int) (j:Nat):Prop:=¬ Up (ex X j) (ex Y j)∧Up (ex X (j+1)) (ex Y (j+1))
theorem between (U : Nat → Prop) (a : Nat) : ∀ m, ¬ U a → U (a + m) → ∃ d, a ≤ d ∧ d < a + m ∧ ¬ U d ∧ U (d + 1)
  | 0,h,h'=>absurd h' h
  | m+1,h,h'=>by
    rcases Classical.em (U (a+m)) with h1|h1
    · obtain ⟨d,e1,e2,e3⟩:=between U a m h h1
      exact ⟨d,e1,by omega,e3⟩
    · exact ⟨a+m,by omega,by omega,h1,h'⟩
def Once (X Y:Nat→Int) (n:Nat):Prop:=∀ d1 d2,Dn X Y d1→Dn X Y d2→d1<d2→d1+n≤d2
theorem phase_up (ho : Once X Y n) {i j : Nat} (hi : Up (ex X i) (ex Y i)) (hj : Up (ex X j) (ex Y j)) (h1 : i < j) (h2 : j < i + n) (hn : Up (ex X (i + n)) (ex Y (i + n))) :
    (∀ m,i≤m→m≤j→Up (ex X m) (ex Y m))∨(∀ m,j≤m→m≤i+n→Up (ex X m) (ex Y m)):=by
  rcases Classical.em (∀ m,i≤m→m≤j→Up (ex X m) (ex Y m)) with h|h
  · exact Or.inl h
  · right
    intro m hm hm'
    rcases Classical.em (Up (ex X m) (ex Y m)) with h3|h3
    · exact h3
    · exfalso
      have ⟨m1,hm1⟩:=Classical.not_forall.mp h
      have ⟨a1,hm2⟩:=Classical.not_forall.mp hm1
      have ⟨a2,hm3⟩:=Classical.not_forall.mp hm2
      have e1:m1≠j:=fun e=>hm3 (e ▸ hj)
      obtain ⟨d1,f1,f2,f3⟩:=between (fun k=>Up (ex X k) (ex Y k)) m1 (j-m1) hm3 (by rw [show m1+(j-m1)=j by omega];exact hj)
      obtain ⟨d2,g1,g2,g3⟩:=between (fun k=>Up (ex X k) (ex Y k)) m (i+n-m) h3 (by rw [show m+(i+n-m)=i+n by omega];exact hn)
      have e2:m1≠i:=fun e=>hm3 (e ▸ hi)
      have:=ho d1 d2 f3 g3 (by omega)
      omega
theorem phase_dn (ho : Once X Y n) {i j : Nat} (hi : ¬ Up (ex X i) (ex Y i)) (hj : ¬ Up (ex X j) (ex Y j)) (h1 : i < j) (h2 : j < i + n) :
    (∀ m,i≤m→m≤j→¬ Up (ex X m) (ex Y m))∨(∀ m,j≤m→m≤i+n→¬ Up (ex X m) (ex Y m)):=by
  rcases Classical.em (∀ m,i≤m→m≤j→¬ Up (ex X m) (ex Y m)) with h|h
  · exact Or.inl h
  · right
    intro m hm hm' h3
    have ⟨m1,hm1⟩:=Classical.not_forall.mp h
    have ⟨a1,hm2⟩:=Classical.not_forall.mp hm1
    have ⟨a2,hm3⟩:=Classical.not_forall.mp hm2
    have hm3:=Classical.not_not.mp hm3
    obtain ⟨d1,f1,f2,f3⟩:=between (fun k=>Up (ex X k) (ex Y k)) i (m1-i) hi (by rw [show i+(m1-i)=m1 by omega];exact hm3)
    obtain ⟨d2,g1,g2,g3⟩:=between (fun k=>Up (ex X k) (ex Y k)) j (m-j) hj (by rw [show j+(m-j)=m by omega];exact h3)
    have:=ho d1 d2 f3 g3 (by omega)
    omega
structure Sgn (X Y:Nat→Int) (n:Nat) (s:Int) (U:Nat→Prop):Prop where
  sq:s*s=1
  up : ∀ j,U j→Up (s*ex X j) (s*ex Y j)
  dn : ∀ j,¬ U j→Up (-(s*ex X j)) (-(s*ex Y j))
  per : ∀ j,U (j+n)↔U j
  phase : ∀ i j,U i→U j→i<j→j<i+n→(∀ m,i≤m→m≤j→U m)∨(∀ m,j≤m→m≤i+n→U m)
theorem cr_sgn {s:Int} (hs:s*s=1) (i j:Nat):crs (s*ex X i) (s*ex Y i) (s*ex X j) (s*ex Y j)=cr X Y i j:=by
  unfold cr crs
  have:s*ex X i*(s*ex Y j)-s*ex Y i*(s*ex X j)=(s*s)*(ex X i*ex Y j-ex Y i*ex X j):=by grind
  rw [this,hs,Int.one_mul]
section
variable {s:Int} {U:Nat→Prop} (S:Sgn X Y n s U) (hc:Closed X Y n) (h1 : ∀ j,0<cr X Y j (j+1))
include S h1
theorem all_up (i : Nat) : ∀ m, (∀ q, i ≤ q → q ≤ i + m + 1 → U q) → 0 < cr X Y i (i + m + 1)
  | 0,_=>h1 i
  | m+1,h=>by
    have ih:=all_up i m (fun q h1 h2=>h q h1 (by omega))
    have hs:=h1 (i+m+1)
    rw [← cr_sgn S.sq] at ih hs ⊢
    exact up_trans (S.up i (h i (by omega) (by omega))) (S.up (i+m+1) (h _ (by omega) (by omega))) (S.up _ (h _ (by omega) (by omega))) ih hs
include hc
theorem step_neg {i j:Nat} (hi:U i) (hij:i<j) (hj:j+1<i+n) (h:cr X Y i j≤0):cr X Y i (j+1)≤0:=by
  have allUp:(∀ m,i≤m→m≤j→U m)→False:=fun ha=>by
    have:=all_up S h1 i (j-i-1) (fun q q1 q2=>ha q q1 (by omega))
    rw [show i+(j-i-1)+1=j by omega] at this
    omega
  rcases Classical.em (U (j+1)) with hu|hu
  · rcases S.phase i (j+1) hi hu (by omega) (by omega) with ha|ha
    · exact (allUp (fun m m1 m2=>ha m m1 (by omega))).elim
    · have:=all_up S h1 (j+1) (i+n-(j+1)-1) (fun q q1 q2=>ha q q1 (by omega))
      rw [show j+1+(i+n-(j+1)-1)+1=i+n by omega,(cr_per hc _ _).1,cr_swap] at this
      omega
  · rcases Classical.em (U j) with hu'|hu'
    · rcases S.phase i j hi hu' (by omega) (by omega) with ha|ha
      · exact (allUp ha).elim
      · exact absurd (ha (j+1) (by omega) (by omega)) hu
    · have hs:=h1 j
      rw [← cr_sgn S.sq] at hs h ⊢
      have:=up_weak (S.up i hi) (S.dn j hu') (S.dn (j+1) hu) (by rw [crs_neg];omega) (by rw [crs_neg2];exact hs)
      rw [crs_neg] at this
      omega
theorem side_pos {i k:Nat} (hi:U i) (hk:i+2≤k) (hkn:k<i+n):0<side X Y i k:=by
  rcases Classical.em (∀ j,i<j→j<k→0<cr X Y i j) with ha|ha
  · have up : ∀ m,i+2+m≤k→0<side X Y i (i+2+m):=by
      intro m
      induction m with
      | zero =>
        intro h
        have e1:=side_step X Y i i
        have e2:=side_step X Y i (i+1)
        rw [side_self,cr_self] at e1
        have:=ha (i+1) (by omega) (by omega)
        rw [show i+2+0=i+1+1 by omega]
        omega
      | succ m ih =>
        intro h
        have e:=side_step X Y i (i+2+m)
        have:=ha (i+2+m) (by omega) (by omega)
        have:=ih (by omega)
        rw [show i+2+(m+1)=i+2+m+1 by omega]
        omega
    have:=up (k-i-2) (by omega)
    rwa [show i+2+(k-i-2)=k by omega] at this
  · have ⟨j,hj⟩:=Classical.not_forall.mp ha
    have ⟨a1,hj2⟩:=Classical.not_forall.mp hj
    have ⟨a2,hj3⟩:=Classical.not_forall.mp hj2
    have neg : ∀ m,j+m<i+n→cr X Y i (j+m)≤0:=by
      intro m
      induction m with
      | zero=>intro _;exact Int.not_lt.mp hj3
      | succ m ih => intro h; have h5 : j + m + 1 < i + n := by omega
                     exact step_neg S hc h1 hi (show i<j+m by omega) h5 (ih (by omega))
    have last:cr X Y i (i+n-1)<0:=by
      have:=h1 (i+n-1)
      rw [show i+n-1+1=i+n by omega,(cr_per hc _ _).1,cr_swap] at this
      omega
    have down : ∀ m,m<i+n-k→side X Y i (k+m)≤side X Y i k:=by
      intro m
      induction m with
      | zero=>intro _;exact Int.le_refl _
      | succ m ih =>
        intro h
        have:=ih (by omega)
        have e:=side_step X Y i (k+m)
        have:=neg (k+m-j) (by omega)
        rw [show j+(k+m-j)=k+m by omega] at this
        rw [show k+(m+1)=k+m+1 by omega]
        omega
    have d:=down (i+n-k-1) (by omega)
    have e:=side_step X Y i (i+n-1)
    rw [show k+(i+n-k-1)=i+n-1 by omega] at d
    rw [show i+n-1+1=i+n by omega,(side_per hc i i).1,side_self] at e
    omega
end
theorem left_of_turns (hc:Closed X Y n) (h1 : ∀ j,0<cr X Y j (j+1)) (ho:Once X Y n) {i k:Nat} (hk:i+2≤k) (hkn:k<i+n):0<side X Y i k:=by
  have hne:=fun j=>(ne_of_crs (h1 j)).1
  rcases Classical.em (Up (ex X i) (ex Y i)) with hi|hi
  · have S:Sgn X Y n 1 (fun j=>Up (ex X j) (ex Y j)):=⟨rfl,fun j h=>by simpa using h,fun j h=>by simpa using (up_or (hne j)).resolve_left h,fun j=>by rw [(ex_per hc j).1,(ex_per hc j).2],fun a b ha hb h1 h2=>phase_up ho ha hb h1 h2 (by rw [(ex_per hc a).1,(ex_per hc a).2];exact ha)⟩
    exact side_pos S hc h1 hi hk hkn
  · have S:Sgn X Y n (-1) (fun j=>¬ Up (ex X j) (ex Y j)):=⟨rfl,fun j h=>by simpa using (up_or (hne j)).resolve_left h,fun j h=>by simpa using Classical.not_not.mp h,fun j=>by rw [(ex_per hc j).1,(ex_per hc j).2],fun a b ha hb h1 h2=>phase_dn ho ha hb h1 h2⟩
    exact side_pos S hc h1 hi hk hkn
def Lefts (X Y:Nat→Int) (n:Nat):Prop:=∀ i k,i+2≤k→k<i+n→0<side X Y i k
theorem turns_of_left (hn:3≤n) (h:Lefts X Y n) (j:Nat):0<cr X Y j (j+1):=by
  have e1:=side_step X Y j j
  have e2:=side_step X Y j (j+1)
  rw [side_self,cr_self] at e1
  have:=h j (j+2) (by omega) (by omega)
  rw [show j+2=j+1+1 by omega] at this
  omega
theorem side_any (hc:Closed X Y n) (h:Lefts X Y n) {i k:Nat} (hik:i<k) (hkn:k<i+n):(i+2≤k→0<side X Y i k)∧(k+2≤i+n→0<side X Y k i):=by
  refine ⟨fun h2=>h i k h2 hkn,fun h2=>?_⟩
  have:=h k (i+n) h2 (by omega)
  rwa [(side_per hc k i).1] at this
theorem above {a b c d u v:Int} (h1:Up a b) (h2:Up c d) (h12:0<crs a b c d) (hu:0<crs a b u v) (hv:crs c d u v<0):Up u v:=by
  rcases up_or (ne_of_crs hu).2 with h|h
  · exact h
  · exfalso
    have e1:0<crs (-u) (-v) a b:=by rw [crs_neg',crs_swap];omega
    have:=up_trans h h1 h2 e1 h12
    rw [crs_neg',crs_swap] at this
    omega
theorem once_of_left (hc:Closed X Y n) (hn:3≤n) (h:Lefts X Y n):Once X Y n:=by
  intro d1 d2 h1 h2 hlt
  rcases Nat.lt_or_ge d2 (d1+n) with hb|hb
  · exfalso
    have t1:=turns_of_left hn h d1
    have t2:=turns_of_left hn h d2
    have hne:=fun j=>(ne_of_crs (turns_of_left hn h j)).1
    have n12:d1+1≠d2:=fun e=>h2.1 (e ▸ h1.2)
    have n21:d2+1≠d1+n:=fun e=>by
      have:=h2.2
      rw [e,(ex_per hc d1).1,(ex_per hc d1).2] at this
      exact h1.1 this

    have a1:0<side X Y (d1+1) (d2+1):=h (d1+1) (d2+1) (by omega) (by omega)
    have a2:0<side X Y d1 (d2+1):=h d1 (d2+1) (by omega) (by omega)
    have b1:0<side X Y (d2+1) (d1+1+n):=h (d2+1) (d1+1+n) (by omega) (by omega)
    have b2:0<side X Y d2 (d1+1+n):=h d2 (d1+1+n) (by omega) (by omega)
    rw [(side_per hc _ _).1] at b1 b2
    have u1:Up (X (d2+1)-X (d1+1)) (Y (d2+1)-Y (d1+1)):=by
      refine above (c:=- ex X d1) (d:=- ex Y d1) h1.2 ((up_or (hne d1)).resolve_left h1.1) ?_ a1 ?_
      · rw [crs_neg,crs_swap];have:cr X Y d1 (d1+1)=crs (ex X d1) (ex Y d1) (ex X (d1+1)) (ex Y (d1+1)):=rfl;omega
      · rw [crs_neg']
        have:side X Y d1 (d2+1)=crs (ex X d1) (ex Y d1) (X (d2+1)-X (d1+1)) (Y (d2+1)-Y (d1+1)):=by unfold side crs ex;grind
        omega
    have u2:Up (X (d1+1)-X (d2+1)) (Y (d1+1)-Y (d2+1)):=by
      refine above (c:=- ex X d2) (d:=- ex Y d2) h2.2 ((up_or (hne d2)).resolve_left h2.1) ?_ b1 ?_
      · rw [crs_neg,crs_swap];have:cr X Y d2 (d2+1)=crs (ex X d2) (ex Y d2) (ex X (d2+1)) (ex Y (d2+1)):=rfl;omega
      · rw [crs_neg']
        have:side X Y d2 (d1+1)=crs (ex X d2) (ex Y d2) (X (d1+1)-X (d2+1)) (Y (d1+1)-Y (d2+1)):=by unfold side crs ex;grind
        omega
    have:=up_not u1
    rw [show -(X (d2+1)-X (d1+1))=X (d1+1)-X (d2+1) by omega,show -(Y (d2+1)-Y (d1+1))=Y (d1+1)-Y (d2+1) by omega] at this
    exact this u2
  · exact hb
theorem up_chain (a : Nat) : ∀ m, (∀ j, a ≤ j → j ≤ a + m → Up (ex X j) (ex Y j)) → Up (X (a + m + 1) - X a) (Y (a + m + 1) - Y a)
  | 0,h=>h a (Nat.le_refl _) (by omega)
  | m+1,h=>by
    have ih:=up_chain a m (fun j h1 h2=>h j h1 (by omega))
    have hl:=h (a+m+1) (by omega) (by omega)
    unfold Up ex at *
    rw [show a+(m+1)+1=a+m+1+1 by omega]
    omega
theorem dn_chain (a : Nat) : ∀ m, (∀ j, a ≤ j → j ≤ a + m → Up (-ex X j) (-ex Y j)) → Up (-(X (a + m + 1) - X a)) (-(Y (a + m + 1) - Y a))
  | 0,h=>h a (Nat.le_refl _) (by omega)
  | m+1,h=>by
    have ih:=dn_chain a m (fun j h1 h2=>h j h1 (by omega))
    have hl:=h (a+m+1) (by omega) (by omega)
    unfold Up ex at *
    rw [show a+(m+1)+1=a+m+1+1 by omega]
    omega
theorem some_up (hc:Closed X Y n) (hn:3≤n) (hne : ∀ j,ex X j≠0∨ex Y j≠0):(∃ j,j<n∧Up (ex X j) (ex Y j))∧(∃ j,j<n∧¬ Up (ex X j) (ex Y j)):=by
  have hx:=hc.x 0
  have hy:=hc.y 0
  rw [Nat.zero_add] at hx hy
  constructor
  · refine Classical.byContradiction fun hno=>?_
    have:=dn_chain (X:=X) (Y:=Y) 0 (n-1) (fun j _ h2=>(up_or (hne j)).resolve_left (fun hu=>hno ⟨j,by omega,hu⟩))
    rw [show 0+(n-1)+1=n by omega,hx,hy] at this
    unfold Up at this
    omega
  · refine Classical.byContradiction fun hno=>?_
    have:=up_chain (X:=X) (Y:=Y) 0 (n-1) (fun j _ h2=>Classical.byContradiction (fun hu=>hno ⟨j,by omega,hu⟩))
    rw [show 0+(n-1)+1=n by omega,hx,hy] at this
    unfold Up at this
    omega
theorem up_perm (hc:Closed X Y n) (j:Nat):Up (ex X (j+n)) (ex Y (j+n))↔Up (ex X j) (ex Y j):=by rw [(ex_per hc j).1,(ex_per hc j).2]
theorem dn_per (hc:Closed X Y n) (j:Nat):Dn X Y (j+n)↔Dn X Y j:=by
  unfold Dn
  rw [up_perm hc,show j+n+1=j+1+n by omega,up_perm hc]
theorem some_dn (hc:Closed X Y n) (hn:3≤n) (hne : ∀ j,ex X j≠0∨ex Y j≠0) : ∃ d,d<n∧Dn X Y d:=by
  obtain ⟨⟨u,hu,hu'⟩,⟨a,ha,ha'⟩⟩:=some_up hc hn hne
  have hun:Up (ex X (a+(u+n-a))) (ex Y (a+(u+n-a))):=by rw [show a+(u+n-a)=u+n by omega,(ex_per hc u).1,(ex_per hc u).2];exact hu'
  obtain ⟨d,d1,d2,d3⟩:=between (fun k=>Up (ex X k) (ex Y k)) a (u+n-a) ha' hun
  rcases Nat.lt_or_ge d n with h|h
  · exact ⟨d,h,d3⟩
  · refine ⟨d-n,by omega,(dn_per hc (d-n)).mp ?_⟩
    rw [show d-n+n=d by omega]
    exact d3
end
end Go.Proofs.YtckjlckhjcbddaaGreat.Geo
