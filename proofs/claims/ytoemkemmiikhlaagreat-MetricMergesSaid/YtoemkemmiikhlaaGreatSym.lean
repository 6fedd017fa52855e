import Derived.Shelf.SlSortCmp.KitK
import Derived.Sort.WalkB2
import Derived.Sort.WalkB12
import Derived.Deep.LoopGhost
import Derived.Deep.DeepCutAuto
import Derived.Deep.CutBlock
namespace Go.Proofs.YtoemkemmiikhlaaGreat.Sym
section
open Go.Sort
set_option linter.unusedSectionVars false
set_option linter.unusedVariables false
variable {α:Type} [Inhabited α]
def swR (d : Array α) (a b : Nat) : Nat → Array α
  | 0=>d
  | n+1=>swp (swR d a b n) (a+n) (b+n)
theorem size_swR (d : Array α) (a b : Nat) : ∀ n, (swR d a b n).size = d.size
  | 0=>rfl
  | n+1=>by rw [swR,size_swp,size_swR d a b n]
theorem swR_perm (d : Array α) (a b lo hi : Nat) : ∀ n, a + n ≤ b → lo ≤ a → b + n ≤ hi → hi ≤ d.size → PermIn lo hi d (swR d a b n)
  | 0,_,_,_,_=>permIn_refl _ _ _
  | n+1,h1,h2,h3,h4=>permIn_trans _ _ _ _ _ (swR_perm d a b lo hi n (by omega) h2 (by omega) h4) (swp_permIn _ lo hi _ _ (by omega) (by omega) (by omega) (by omega) (by rw [size_swR];exact h4))
theorem swR_get (d : Array α) (a b : Nat) : ∀ n, a + n ≤ b → b + n ≤ d.size → ∀ x, (swR d a b n)[x]! = if a ≤ x ∧ x < a + n then d[x - a + b]! else if b ≤ x ∧ x < b + n then d[x - b + a]! else d[x]!
  | 0,_,_,x=>by rw [if_neg (by omega),if_neg (by omega)];rfl
  | n+1,h1,h2,x=>by
    have ih:=swR_get d a b n (by omega) (by omega)
    by_cases e1:x=a+n
    · subst e1
      rw [swR,swp_left _ _ _ (by rw [size_swR];omega) (by omega),ih,if_neg (by omega),if_neg (by omega),if_pos (by omega)]
      congr 1;omega
    · by_cases e2:x=b+n
      · subst e2
        rw [swR,swp_right _ _ _ (by rw [size_swR];omega),ih,if_neg (by omega),if_neg (by omega),if_neg (by omega),if_pos (by omega)]
        congr 1;omega
      · rw [swR,swp_other _ _ _ _ e1 e2,ih]
        by_cases c1:a≤x∧x<a+n
        · rw [if_pos c1,if_pos (by omega)]
        · by_cases c2:b≤x∧x<b+n
          · rw [if_neg c1,if_pos c2,if_neg (show ¬ (a≤x∧x<a+(n+1)) by omega),if_pos (by omega)]
          · rw [if_neg c1,if_neg c2,if_neg (show ¬ (a≤x∧x<a+(n+1)) by omega),if_neg (by omega)]
def rotIdx (a m b x:Nat):Nat:=if x<a∨b≤x then x else if x<a+(b-m) then x+(m-a) else x-(b-m)
def IsRot (a m b:Nat) (d D:Array α):Prop:=PermIn a b d D∧∀ x,D[x]! = d[rotIdx a m b x]!
theorem IsRot.of {a m b:Nat} {d D:Array α} (hp:PermIn a b d D) (h : ∀ x,D[x]! = d[rotIdx a m b x]!):IsRot a m b d D:=⟨hp,h⟩
theorem rot_gt {a i j:Nat} {d D:Array α} (h:j<i) (hb:a+i+j≤d.size) (hr:IsRot (a+j) (a+i) (a+i+j) (swR d a (a+i) j) D):IsRot a (a+i) (a+i+j) d D:=by
  refine ⟨permIn_trans _ _ _ _ _ (swR_perm d a (a+i) a (a+i+j) j (by omega) (Nat.le_refl _) (Nat.le_refl _) hb) (permIn_mono _ _ (a+j) (a+i+j) a (a+i+j) (by omega) (Nat.le_refl _) (by rw [size_swR];exact hb) hr.1),fun x=>?_⟩
  rw [hr.2 x,swR_get d a (a+i) j (by omega) hb]
  unfold rotIdx
  by_cases c0:x<a∨a+i+j≤x
  · rw [if_pos (show x<a+j∨a+i+j≤x by omega),if_neg (by omega),if_neg (by omega),if_pos c0]
  · rw [if_neg c0]
    by_cases c1:x<a+j
    · rw [if_pos (show x<a+j∨a+i+j≤x by omega),if_pos (by omega),if_pos (by omega)];congr 1;omega
    · rw [if_neg (show ¬ (x<a+j∨a+i+j≤x) by omega),if_neg (show ¬ x<a+(a+i+j-(a+i)) by omega)]
      by_cases c2:x<a+j+(a+i+j-(a+i))
      · rw [if_pos c2,if_neg (by omega),if_pos (by omega)];congr 1;omega
      · rw [if_neg c2,if_neg (by omega),if_neg (by omega)]
theorem rot_lt {a i j:Nat} {d D:Array α} (h:i<j) (hb:a+i+j≤d.size) (hr:IsRot a (a+i) (a+j) (swR d a (a+j) i) D):IsRot a (a+i) (a+i+j) d D:=by
  refine ⟨permIn_trans _ _ _ _ _ (swR_perm d a (a+j) a (a+i+j) i (by omega) (Nat.le_refl _) (by omega) hb) (permIn_mono _ _ a (a+j) a (a+i+j) (Nat.le_refl _) (by omega) (by rw [size_swR];exact hb) hr.1),fun x=>?_⟩
  rw [hr.2 x,swR_get d a (a+j) i (by omega) (by omega)]
  unfold rotIdx
  by_cases c0:x<a
  · rw [if_pos (Or.inl c0),if_neg (by omega),if_neg (by omega),if_pos (Or.inl c0)]
  · by_cases c1:x<a+j
    · rw [if_neg (show ¬ (x<a∨a+j≤x) by omega),if_neg (show ¬ (x<a∨a+i+j≤x) by omega),if_pos (show x<a+(a+i+j-(a+i)) by omega)]
      by_cases c2:x<a+(a+j-(a+i))
      · rw [if_pos c2]
        by_cases c3:x+(a+i-a)<a+i
        · omega
        · rw [if_neg (by omega),if_neg (by omega)]
      · rw [if_neg c2,if_pos (by omega)];congr 1;omega
    · rw [if_pos (show (x<a∨a+j≤x) by omega),if_neg (by omega)]
      by_cases c2:x<a+j+i
      · rw [if_pos (by omega),if_neg (by omega),if_neg (by omega)];congr 1;omega
      · rw [if_neg (by omega),if_pos (by omega)]
theorem rot_eq {a i:Nat} {d:Array α} (hb:a+i+i≤d.size):IsRot a (a+i) (a+i+i) d (swR d a (a+i) i):=by
  refine ⟨swR_perm d a (a+i) a (a+i+i) i (by omega) (Nat.le_refl _) (Nat.le_refl _) hb,fun x=>?_⟩
  rw [swR_get d a (a+i) i (by omega) hb]
  unfold rotIdx
  by_cases c0:x<a∨a+i+i≤x
  · rw [if_pos c0,if_neg (by omega),if_neg (by omega)]
  · rw [if_neg c0]
    by_cases c1:x<a+i
    · rw [if_pos (by omega),if_pos (by omega)];congr 1;omega
    · rw [if_neg (by omega),if_pos (by omega),if_neg (by omega)];congr 1;omega
theorem rot_none {a m b:Nat} {d:Array α} (h:a=m∨m=b) (h1:a≤m) (h2:m≤b):IsRot a m b d d:=by
  refine ⟨permIn_refl _ _ _,fun x=>?_⟩
  unfold rotIdx
  by_cases c0:x<a∨b≤x
  · rw [if_pos c0]
  · rw [if_neg c0]
    by_cases c1:x<a+(b-m)
    · rw [if_pos c1];congr 1;omega
    · rw [if_neg c1];congr 1;omega
def shU (d : Array α) (a : Nat) : Nat → Array α
  | 0=>d
  | t+1=>swp (shU d a t) (a+t) (a+t+1)
theorem shU_rot (d : Array α) (a : Nat) : ∀ t, a + 1 + t ≤ d.size → IsRot a (a + 1) (a + 1 + t) d (shU d a t)
  | 0,_=>rot_none (Or.inr rfl) (by omega) (by omega)
  | t+1,h=>by
    have ih:=shU_rot d a t (by omega)
    have hs:(shU d a t).size=d.size:=ih.1.1
    refine ⟨permIn_trans _ _ _ _ _ (permIn_mono _ _ a (a+1+t) a (a+1+(t+1)) (Nat.le_refl _) (by omega) h ih.1) (swp_permIn _ _ _ _ _ (by omega) (by omega) (by omega) (by omega) (by rw [hs];exact h)),fun x=>?_⟩
    by_cases e1:x=a+t
    · subst e1
      rw [shU,swp_left _ _ _ (by omega) (by omega),ih.2]
      unfold rotIdx
      rw [if_pos (by omega),if_neg (by omega),if_pos (by omega)];congr 1;omega
    · by_cases e2:x=a+t+1
      · subst e2
        rw [shU,swp_right _ _ _ (by omega),ih.2]
        unfold rotIdx
        rw [if_neg (by omega),if_neg (by omega),if_neg (by omega),if_neg (by omega)];congr 1;omega
      · rw [shU,swp_other _ _ _ _ e1 e2,ih.2]
        congr 1
        unfold rotIdx
        by_cases c0:x<a∨a+1+t≤x
        · rw [if_pos c0,if_pos (by omega)]
        · rw [if_neg c0,if_pos (show x<a+(a+1+t-(a+1)) by omega),if_neg (by omega),if_pos (by omega)]
def shD (d : Array α) (m : Nat) : Nat → Array α
  | 0=>d
  | t+1=>swp (shD d m t) (m-t) (m-t-1)
theorem shD_rot (d : Array α) (m : Nat) (hm : m + 1 ≤ d.size) : ∀ t, t ≤ m → IsRot (m - t) m (m + 1) d (shD d m t)
  | 0,_=>rot_none (Or.inl (by omega)) (by omega) (by omega)
  | t+1,h=>by
    have ih:=shD_rot d m hm t (by omega)
    have hs:(shD d m t).size=d.size:=ih.1.1
    refine ⟨permIn_trans _ _ _ _ _ (permIn_mono _ _ (m-t) (m+1) (m-(t+1)) (m+1) (by omega) (by omega) hm ih.1) (swp_permIn _ _ _ _ _ (by omega) (by omega) (by omega) (by omega) (by rw [hs];exact hm)),fun x=>?_⟩
    by_cases e1:x=m-t
    · subst e1
      rw [shD,swp_left _ _ _ (by omega) (by omega),ih.2]
      congr 1
      unfold rotIdx
      rw [if_pos (by omega),if_neg (by omega),if_neg (by omega)];omega
    · by_cases e2:x=m-t-1
      · subst e2
        rw [shD,swp_right _ _ _ (by omega),ih.2]
        congr 1
        unfold rotIdx
        rw [if_neg (by omega),if_pos (by omega),if_neg (by omega),if_pos (by omega)];omega
      · rw [shD,swp_other _ _ _ _ e1 e2,ih.2]
        congr 1
        unfold rotIdx
        by_cases c0:x<m-t∨m+1≤x
        · rw [if_pos c0,if_pos (by omega)]
        · rw [if_neg c0,if_neg (by omega),if_neg (by omega),if_neg (by omega)]
section
variable {lt:α→α→Bool} (hO:SWO lt) {a m b:Nat} {d D:Array α}
theorem srt_le {x y:Nat} (h:SortedIn lt a b d) (hO:SWO lt) (h1:a≤x) (h2:x≤y) (h3:y<b):lt d[y]! d[x]! = false:=by
  rcases Nat.lt_or_ge x y with h|h'
  · exact ‹SortedIn lt a b d› x y h1 h h3
  · obtain rfl:x=y:=by omega
    exact hO.irrefl _
include hO
theorem lt_asym {x y:α} (h:lt x y=true):lt y x=false:=by
  cases h':lt y x with
  | false=>rfl
  | true=>exact absurd (hO.trans _ _ _ h h') (by rw [hO.irrefl];simp)
theorem merge_one {i:Nat} (hs:SortedIn lt (a+1) b d) (h1:a+1≤i) (h2:i≤b) (hl:i=a+1∨lt d[i-1]! d[a]! = true) (hu:i=b∨lt d[i]! d[a]! = false) (hr:IsRot a (a+1) i d D):SortedIn lt a b D:=by
  intro x y hx hxy hy
  rw [hr.2,hr.2]
  unfold rotIdx
  by_cases c1:x<i-1
  · rw [if_neg (show ¬ (x<a∨i≤x) by omega),if_pos (show x<a+(i-(a+1)) by omega)]
    by_cases c2:y<i-1
    · rw [if_neg (by omega),if_pos (by omega)];exact hs _ _ (by omega) (by omega) (by omega)
    · by_cases c3:y=i-1
      · rw [if_neg (by omega),if_neg (by omega)]
        rcases hl with hl|hl
        · omega
        · have e:y-(i-(a+1))=a:=by omega
          rw [e]
          exact hO.ntrans _ _ _ (lt_asym hO hl) (srt_le hs hO (by omega) (by omega) (by omega))
      · rw [if_pos (by omega)];exact srt_le hs hO (by omega) (by omega) (by omega)
  · by_cases c2:x=i-1
    · rw [if_neg (show ¬ (x<a∨i≤x) by omega),if_neg (show ¬ x<a+(i-(a+1)) by omega),if_pos (by omega)]
      have e:x-(i-(a+1))=a:=by omega
      rw [e]
      rcases hu with hu|hu
      · omega
      · exact hO.ntrans _ _ _ (srt_le hs hO (show a+1≤i by omega) (by omega) hy) hu
    · rw [if_pos (by omega),if_pos (by omega)];exact hs _ _ (by omega) hxy hy
theorem merge_last {i:Nat} (hs:SortedIn lt a m d) (h1:a≤i) (h2:i≤m) (hl:i=a∨lt d[m]! d[i-1]! = false) (hu:i=m∨lt d[m]! d[i]! = true) (hr:IsRot i m (m+1) d D):SortedIn lt a (m+1) D:=by
  intro x y hx hxy hy
  rw [hr.2,hr.2]
  unfold rotIdx
  by_cases c1:x<i
  · rw [if_pos (show x<i∨m+1≤x by omega)]
    by_cases c2:y<i
    · rw [if_pos (by omega)];exact hs _ _ (by omega) (by omega) (by omega)
    · by_cases c3:y=i
      · rw [if_neg (by omega),if_pos (by omega)]
        have e:y+(m-i)=m:=by omega
        rw [e]
        rcases hl with hl|hl
        · omega
        · exact hO.ntrans _ _ _ hl (srt_le hs hO (by omega) (by omega) (by omega))
      · rw [if_neg (by omega),if_neg (by omega)];exact srt_le hs hO (by omega) (by omega) (by omega)
  · by_cases c2:x=i
    · rw [if_neg (show ¬ (x<i∨m+1≤x) by omega),if_pos (show x<i+(m+1-m) by omega),if_neg (by omega),if_neg (by omega)]
      have e:x+(m-i)=m:=by omega
      rw [e]
      rcases hu with hu|hu
      · omega
      · exact hO.ntrans _ _ _ (srt_le hs hO (show a≤i by omega) (by omega) (by omega)) (lt_asym hO hu)
    · rw [if_neg (by omega),if_neg (by omega),if_neg (by omega),if_neg (by omega)];exact hs _ _ (by omega) (by omega) (by omega)
theorem merge_rot {s e mid : Nat} (hs1 : SortedIn lt a m d) (hs2 : SortedIn lt m b d) (ha : a ≤ s) (hsm : s ≤ m) (hme : m ≤ e) (heb : e ≤ b) (hmid : s + (e - m) = mid)
    (hl:s=a∨e=b∨lt d[e]! d[s-1]! = false) (hu:s=m∨e=m∨lt d[e-1]! d[s]! = true) (hr:IsRot s m e d D) :
    SortedIn lt a s D∧SortedIn lt s mid D∧SortedIn lt mid e D∧SortedIn lt e b D∧∀ x y,a≤x→x<mid→mid≤y→y<b→lt D[y]! D[x]! = false:=by
  have g1 : ∀ x,x<s→D[x]! = d[x]!:=fun x h=>by rw [hr.2];unfold rotIdx;rw [if_pos (Or.inl h)]
  have g2 : ∀ x,s≤x→x<mid→D[x]! = d[x+(m-s)]!:=fun x h h'=>by rw [hr.2];unfold rotIdx;rw [if_neg (by omega),if_pos (by omega)]
  have g3 : ∀ x,mid≤x→x<e→D[x]! = d[x-(e-m)]!:=fun x h h'=>by rw [hr.2];unfold rotIdx;rw [if_neg (by omega),if_neg (by omega)]
  have g4 : ∀ x,e≤x→D[x]! = d[x]!:=fun x h=>by rw [hr.2];unfold rotIdx;rw [if_pos (Or.inr h)]
  refine ⟨fun x y h1 h2 h3=>?_,fun x y h1 h2 h3=>?_,fun x y h1 h2 h3=>?_,fun x y h1 h2 h3=>?_,fun x y h1 h2 h3 h4=>?_⟩
  · rw [g1 _ (by omega),g1 _ (by omega)];exact hs1 _ _ (by omega) (by omega) (by omega)
  · rw [g2 _ (by omega) (by omega),g2 _ (by omega) (by omega)];exact hs2 _ _ (by omega) (by omega) (by omega)
  · rw [g3 _ (by omega) (by omega),g3 _ (by omega) (by omega)];exact hs1 _ _ (by omega) (by omega) (by omega)
  · rw [g4 _ (by omega),g4 _ (by omega)];exact hs2 _ _ (by omega) (by omega) (by omega)
  · by_cases c1:x<s
    · rw [g1 x c1]
      by_cases c2:y<e
      · rw [g3 y h3 c2];exact srt_le hs1 hO (by omega) (by omega) (by omega)
      · rw [g4 y (by omega)]
        rcases hl with hl|hl|hl
        · omega
        · omega
        · exact hO.ntrans _ _ _ (hO.ntrans _ _ _ (srt_le hs2 hO (by omega) (by omega) (by omega)) hl) (srt_le hs1 hO (by omega) (by omega) (by omega))
    · rw [g2 x (by omega) h2]
      by_cases c2:y<e
      · rw [g3 y h3 c2]
        rcases hu with hu|hu|hu
        · omega
        · omega
        · exact hO.ntrans _ _ _ (hO.ntrans _ _ _ (srt_le hs1 hO (show a≤s by omega) (by omega) (by omega)) (lt_asym hO hu)) (srt_le hs2 hO (by omega) (by omega) (by omega))
      · rw [g4 y (by omega)];exact srt_le hs2 hO (by omega) (by omega) (by omega)
omit hO in
theorem srt_congr (h:SortedIn lt a b d) (he : ∀ x,a≤x→x<b→D[x]! = d[x]!):SortedIn lt a b D:=fun x y h1 h2 h3=>by rw [he x h1 (by omega),he y (by omega) h3];exact h x y h1 h2 h3
omit hO in
theorem srt_small (h:b≤a+1):SortedIn lt a b d:=fun x y h1 h2 h3=>by omega
omit hO in
theorem merge_halves {mid : Nat} {D1 D2 : Array α} (ha : a ≤ mid) (hb : mid ≤ b) (hsz : b ≤ D.size) (hx : ∀ x y, a ≤ x → x < mid → mid ≤ y → y < b → lt D[y]! D[x]! = false)
    (p1:PermIn a mid D D1) (s1:SortedIn lt a mid D1) (p2:PermIn mid b D1 D2) (s2:SortedIn lt mid b D2):PermIn a b D D2∧SortedIn lt a b D2:=by
  have hs1:D1.size=D.size:=p1.1
  refine ⟨permIn_trans _ _ _ _ _ (permIn_mono _ _ a mid a b (Nat.le_refl _) hb hsz p1) (permIn_mono _ _ mid b a b ha (Nat.le_refl _) (by omega) p2),?_⟩
  have hx1 : ∀ x,a≤x→x<mid→∀ y,mid≤y→y<b→lt D1[y]! D1[x]! = false:=fun x h1 h2 y h3 h4=>by
    rw [p1.2.1 y (Or.inr h3)]
    exact permIn_all D D1 a mid (fun v=>lt D[y]! v=false) (by omega) p1 (fun i hi hi'=>hx i y hi hi' h3 h4) x h1 h2
  have hx2 : ∀ x,a≤x→x<mid→∀ y,mid≤y→y<b→lt D2[y]! D2[x]! = false:=fun x h1 h2 y h3 h4=>by
    rw [p2.2.1 x (Or.inl h2)]
    exact permIn_all D1 D2 mid b (fun v=>lt v D1[x]! = false) (by omega) p2 (fun i hi hi'=>hx1 x h1 h2 i hi hi') y h3 h4
  intro x y h1 h2 h3
  by_cases c1:y<mid
  · rw [p2.2.1 x (Or.inl (by omega)),p2.2.1 y (Or.inl c1)];exact s1 x y h1 h2 c1
  · by_cases c2:x<mid
    · exact hx2 x h1 c2 y (by omega) h3
    · exact s2 x y (by omega) h2 h3
end
section
variable {lt:α→α→Bool} {bs n:Nat} {d D:Array α}
def RunsIn (lt:α→α→Bool) (bs lo hi n:Nat) (d:Array α):Prop:=∀ t,lo≤t*bs→t*bs<hi→SortedIn lt (t*bs) (min (t*bs+bs) n) d
theorem runs_next {s:Nat} (h:RunsIn lt bs 0 (s*bs) n d) (hn:s*bs+bs≤n) (hp:PermIn (s*bs) (s*bs+bs) d D) (hs:SortedIn lt (s*bs) (s*bs+bs) D):RunsIn lt bs 0 (s*bs+bs) n D:=by
  intro t _ h2
  by_cases c:t*bs<s*bs
  · have hts:t<s:=Nat.lt_of_mul_lt_mul_right c
    have:(t+1)*bs≤s*bs:=Nat.mul_le_mul_right bs hts
    rw [Nat.add_mul,Nat.one_mul] at this
    exact srt_congr (h t (Nat.zero_le _) c) (fun x _ hx=>hp.2.1 x (Or.inl (by omega)))
  · have h3:t*bs<(s+1)*bs:=by rw [Nat.add_mul,Nat.one_mul];exact h2
    have hts:t<s+1:=Nat.lt_of_mul_lt_mul_right h3
    have hst : ¬ t<s:=fun hh=>c (Nat.mul_lt_mul_of_pos_right hh (by
      rcases Nat.eq_zero_or_pos bs with h0|h0
      · subst h0;simp at h3
      · exact h0))
    obtain rfl:t=s:=by omega
    rw [Nat.min_eq_left hn]
    exact hs
theorem runs_last {s:Nat} (h:RunsIn lt bs 0 (s*bs) n d) (hn:n<s*bs+bs) (hp:PermIn (s*bs) n d D) (hs:SortedIn lt (s*bs) n D):RunsIn lt bs 0 n n D:=by
  intro t _ h2
  by_cases c:t*bs<s*bs
  · have hts:t<s:=Nat.lt_of_mul_lt_mul_right c
    have:(t+1)*bs≤s*bs:=Nat.mul_le_mul_right bs hts
    rw [Nat.add_mul,Nat.one_mul] at this
    exact srt_congr (h t (Nat.zero_le _) c) (fun x _ hx=>hp.2.1 x (Or.inl (by omega)))
  · have h3:t*bs<(s+1)*bs:=by rw [Nat.add_mul,Nat.one_mul];omega
    have hts:t<s+1:=Nat.lt_of_mul_lt_mul_right h3
    have hst : ¬ t<s:=fun hh=>c (Nat.mul_lt_mul_of_pos_right hh (by
      rcases Nat.eq_zero_or_pos bs with h0|h0
      · subst h0;simp at h3
      · exact h0))
    obtain rfl:t=s:=by omega
    rw [Nat.min_eq_right (by omega)]
    exact hs
theorem runs_keep {lo lo' hi:Nat} (h:RunsIn lt bs lo hi n d) (hl:lo≤lo') (hp : ∀ x,lo'≤x→D[x]! = d[x]!):RunsIn lt bs lo' hi n D:=fun t h1 h2=>srt_congr (h t (by omega) h2) (fun x hx _=>hp x (by omega))
theorem runs_two {s:Nat} (h:RunsIn lt bs (s*(2*bs)) n n d) (hn:s*(2*bs)+2*bs≤n) (h0:0<bs):SortedIn lt (s*(2*bs)) (s*(2*bs)+bs) d∧SortedIn lt (s*(2*bs)+bs) (s*(2*bs)+2*bs) d:=by
  have e1:(2*s)*bs=s*(2*bs):=by rw [Nat.mul_comm 2 s,Nat.mul_assoc]
  have e2:(2*s+1)*bs=s*(2*bs)+bs:=by rw [Nat.add_mul,e1,Nat.one_mul]
  have h1:=h (2*s) (by omega) (by omega)
  have h2:=h (2*s+1) (by omega) (by omega)
  rw [e1,Nat.min_eq_left (by omega)] at h1
  rw [e2,Nat.min_eq_left (by omega),show s*(2*bs)+bs+bs=s*(2*bs)+2*bs by omega] at h2
  exact ⟨h1,h2⟩
theorem runs_tail {s:Nat} (h:RunsIn lt bs (s*(2*bs)) n n d) (hn:n<s*(2*bs)+2*bs) (hm:s*(2*bs)+bs<n):SortedIn lt (s*(2*bs)) (s*(2*bs)+bs) d∧SortedIn lt (s*(2*bs)+bs) n d:=by
  have e1:(2*s)*bs=s*(2*bs):=by rw [Nat.mul_comm 2 s,Nat.mul_assoc]
  have e2:(2*s+1)*bs=s*(2*bs)+bs:=by rw [Nat.add_mul,e1,Nat.one_mul]
  have h1:=h (2*s) (by omega) (by omega)
  have h2:=h (2*s+1) (by omega) (by omega)
  rw [e1,Nat.min_eq_left (by omega)] at h1
  rw [e2,Nat.min_eq_right (by omega)] at h2
  exact ⟨h1,h2⟩
theorem runs_rest {s:Nat} (h:RunsIn lt bs (s*(2*bs)) n n d) (hm:n≤s*(2*bs)+bs):SortedIn lt (s*(2*bs)) n d:=by
  by_cases c:s*(2*bs)<n
  · have e1:(2*s)*bs=s*(2*bs):=by rw [Nat.mul_comm 2 s,Nat.mul_assoc]
    have h1:=h (2*s) (by omega) (by omega)
    rw [e1,Nat.min_eq_right hm] at h1
    exact h1
  · exact srt_small (by omega)
theorem runs_all (h:RunsIn lt bs 0 n n d) (hb:n≤bs):SortedIn lt 0 n d:=by
  by_cases c:0<n
  · have h1:=h 0 (Nat.zero_le _) (by omega)
    simp only [Nat.zero_mul,Nat.zero_add] at h1
    rw [Nat.min_eq_right hb] at h1
    exact h1
  · exact srt_small (by omega)
end
theorem sym_start {a m b mid nn s0 r0 : Nat} (ham : a < m) (hmb : m < b) (hm2 : 2 * mid ≤ a + b ∧ a + b ≤ 2 * mid + 1) (hn2 : nn ≤ mid + m ∧ mid + m ≤ nn) (hsr : (mid < m ∧ s0 + b = nn ∧ r0 = mid) ∨ (m ≤ mid ∧ s0 = a ∧ r0 = m)) :
    a≤s0∧s0≤r0∧r0≤mid∧r0≤m:=by
  rcases hsr with ⟨h1,h2,h3⟩|⟨h1,h2,h3⟩
  · refine ⟨?_,?_,?_,?_⟩ <;> omega
  · refine ⟨?_,?_,?_,?_⟩ <;> omega
theorem sym_end {a m b mid nn s0 r0 s en : Nat} (ham : a < m) (hmb : m < b) (hm2 : 2 * mid ≤ a + b ∧ a + b ≤ 2 * mid + 1) (hn2 : nn ≤ mid + m ∧ mid + m ≤ nn) (hsr : (mid < m ∧ s0 + b = nn ∧ r0 = mid) ∨ (m ≤ mid ∧ s0 = a ∧ r0 = m)) (h0 : s0 ≤ s) (h1 : s ≤ r0) (he : en = nn - s) :
    a≤s∧s≤m∧m≤en∧en≤b∧s+(en-m)=mid∧s≤mid∧mid≤en:=by
  subst he
  rcases hsr with ⟨g1,g2,g3⟩|⟨g1,g2,g3⟩
  · refine ⟨?_,?_,?_,?_,?_,?_,?_⟩ <;> omega
  · refine ⟨?_,?_,?_,?_,?_,?_,?_⟩ <;> omega
theorem sym_ends {a m b mid nn s0 r0 s en:Nat} {A B:Prop} (hn2:nn≤mid+m∧mid+m≤nn) (hsr:(mid<m∧s0+b=nn∧r0=mid)∨(m≤mid∧s0=a∧r0=m)) (he:en=nn-s) (hle:s≤nn) (hA:s=s0∨A) (hB:s=r0∨B):(s=a∨en=b∨A)∧(s=m∨en=m∨B):=by
  subst he
  refine ⟨?_,?_⟩
  · rcases hA with h|h
    · rcases hsr with ⟨g1,g2,g3⟩|⟨g1,g2,g3⟩
      · exact .inr (.inl (by omega))
      · exact .inl (by omega)
    · exact .inr (.inr h)
  · rcases hB with h|h
    · rcases hsr with ⟨g1,g2,g3⟩|⟨g1,g2,g3⟩
      · exact .inr (.inl (by omega))
      · exact .inl (by omega)
    · exact .inr (.inr h)
theorem sym_pc {nn s r:Nat} (h1:s<r) (h2:r<nn) (h3:nn<9223372036854775808) : ∃ pc:Nat,(nn:Int)-1-((s:Int)+(r:Int)) / 2=(pc:Int)∧pc+(s+r) / 2+1≤nn∧nn≤pc+(s+r) / 2+1:=by
  refine ⟨nn-1-(s+r) / 2,?_,?_,?_⟩ <;> omega
end
open Go.Shelf Go.RowKit Go.Lib Go.Sort
set_option linter.unusedSectionVars false
set_option linter.unusedVariables false
structure Aside0 (p:Prop):Prop where mk::(out:p)
end Go.Proofs.YtoemkemmiikhlaaGreat.Sym
