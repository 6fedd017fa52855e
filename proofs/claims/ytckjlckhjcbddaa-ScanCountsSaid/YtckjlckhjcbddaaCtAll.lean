import Derived.Test.YtckjlckhjcbddaaPH3x5
import Derived.Test.YtckjlckhjcbddaaPH3x6
import Derived.Test.YtckjlckhjcbddaaPH3x9
set_option linter.unusedVariables false
set_option linter.unusedSimpArgs false
namespace Go.Proofs.Ytckjlckhjcbddaa.PH3
open Go.RowKit Go.Proofs.YtckjlckhjcbddaaW.PrintWords Go.Proofs.YtckjlckhjcbddaaW.PrintLast Go.Proofs.YtckjlckhjcbddaaW.PrintMore
abbrev Sp:=S36
theorem sp_ext {x y:Sp} (h0:x.f0=y.f0) (h1:x.f1=y.f1):x=y:=by
  cases x;cases y;simp only at h0 h1;subst h0;subst h1;rfl
instance decSp:DecidableEq Sp:=fun x y=>decidable_of_iff (x.f0=y.f0∧x.f1=y.f1) ⟨fun h=>sp_ext h.1 h.2,fun h=>by rw [h];exact ⟨rfl,rfl⟩⟩
theorem w64 {n:Int} (h : -9223372036854775808≤n) (h':n≤9223372036854775807):wrap64 n=n:=by unfold wrap64;omega
theorem rdS (l:List Sp) (i:Nat) (h:i<l.length):rd_T36 l (i:Int)=l[i]:=by
  simp [rd_T36,List.getD_eq_getElem?_getD,List.getElem?_eq_getElem h]
def Up (lo : Int) : List Sp → Prop
  | []=>True
  | s::l=>lo<s.f0∧0≤s.f0∧s.f0<s.f1∧s.f1≤256∧Up s.f1 l
def upB (lo : Int) : List Sp → Bool
  | []=>true
  | s::l=>decide (lo<s.f0) && (decide (0≤s.f0) && (decide (s.f0<s.f1) && (decide (s.f1≤256) && upB s.f1 l)))
theorem upB_iff : ∀ (l : List Sp) (lo : Int), upB lo l = true ↔ Up lo l
  | [],_=>by simp [upB,Up]
  | s::l,lo=>by simp [upB,Up,upB_iff l]
theorem up_mem : ∀ {l : List Sp} {lo : Int}, Up lo l → ∀ s ∈ l, lo < s.f0 ∧ 0 ≤ s.f0 ∧ s.f0 < s.f1 ∧ s.f1 ≤ 256
  | s::l,lo,h,x,hx=>by
    obtain ⟨h1,h2,h3,h4,h5⟩:=h
    rcases List.mem_cons.mp hx with rfl|hx
    · exact ⟨h1,h2,h3,h4⟩
    · obtain ⟨a,b,c,d⟩:=up_mem h5 x hx
      exact ⟨by omega,b,c,d⟩
theorem up_len : ∀ {l : List Sp} {lo : Int}, Up lo l → -1 ≤ lo → lo ≤ 256 → (l.length : Int) ≤ 256 - lo
  | [],lo,_,_,h=>by simp;omega
  | s::l,lo,h,h0,h1=>by
    obtain ⟨a,b,c,d,e⟩:=h
    have:=up_len e (by omega) d
    simp only [List.length_cons]
    omega
def okS (l:List Sp):Bool:=upB (-1) l
def hasS (l:List Sp) (j:Int):Bool:=l.any fun s=>decide (s.f0≤j) && decide (j<s.f1)
theorem hasS_iff (l:List Sp) (j:Int):hasS l j=true↔∃ s∈l,s.f0≤j∧j<s.f1:=by
  simp [hasS,List.any_eq_true]
theorem hasS_low {l:List Sp} {lo:Int} (h:Up lo l) {j:Int} (hj:j≤lo):hasS l j=false:=by
  rw [Bool.eq_false_iff]
  intro hh
  obtain ⟨s,hs,h1,h2⟩:=(hasS_iff l j).mp hh
  have:=(up_mem h s hs).1
  omega
theorem hasS_cons (s:Sp) (l:List Sp) (j:Int):hasS (s::l) j=((decide (s.f0≤j) && decide (j<s.f1)) || hasS l j):=by simp [hasS]
theorem hasS_app (p q:List Sp) (j:Int):hasS (p++q) j=(hasS p j || hasS q j):=by simp [hasS,List.any_append]
theorem up_unique : ∀ {a b : List Sp} {lo : Int}, Up lo a → Up lo b → (∀ j : Int, hasS a j = hasS b j) → a = b
  | [],[],_,_,_,_=>rfl
  | [],s::b,lo,_,hb,h=>by
    have:=h s.f0
    rw [hasS_cons,decide_eq_true (Int.le_refl _),decide_eq_true hb.2.2.1] at this
    simp [hasS] at this
  | s::a,[],lo,ha,_,h=>by
    have:=h s.f0
    rw [hasS_cons,decide_eq_true (Int.le_refl _),decide_eq_true ha.2.2.1] at this
    simp [hasS] at this
  | s::a,t::b,lo,ha,hb,h=>by
    obtain ⟨a1,a2,a3,a4,a5⟩:=ha
    obtain ⟨b1,b2,b3,b4,b5⟩:=hb
    have key : ∀ (s t:Sp) (a b:List Sp),s.f0<s.f1→Up t.f1 b→t.f0<t.f1→(∀ j:Int,hasS (s::a) j=hasS (t::b) j)→t.f0≤s.f0:=by
      intro s t a b h1 h2 h3 h
      have e:=h s.f0
      rw [hasS_cons,decide_eq_true (Int.le_refl _),decide_eq_true h1] at e
      have e2:hasS (t::b) s.f0=true:=by rw [← e];rfl
      obtain ⟨x,hx,q1,q2⟩:=(hasS_iff _ _).mp e2
      rcases List.mem_cons.mp hx with rfl|hx
      · exact q1
      · have:=(up_mem h2 x hx).1;omega
    have e0:s.f0=t.f0:=Int.le_antisymm (key t s b a b3 a5 a3 (fun j=>(h j).symm)) (key s t a b a3 b5 b3 h)
    have key1 : ∀ (s t:Sp) (a b:List Sp),s.f0=t.f0→s.f0<s.f1→Up s.f1 a→t.f0<t.f1→(∀ j:Int,hasS (s::a) j=hasS (t::b) j)→t.f1≤s.f1:=by
      intro s t a b h0 h1 h2 h3 h
      rcases Int.lt_or_le s.f1 t.f1 with hlt|hle
      · have e:=h s.f1
        rw [hasS_cons,hasS_cons,decide_eq_false (Int.lt_irrefl _),hasS_low h2 (Int.le_refl _),decide_eq_true (show t.f0≤s.f1 by omega),decide_eq_true hlt] at e
        simp at e
      · exact hle
    have e1:s.f1=t.f1:=Int.le_antisymm (key1 t s b a e0.symm b3 b5 a3 (fun j=>(h j).symm)) (key1 s t a b e0 a3 a5 b3 h)
    obtain rfl:=sp_ext e0 e1
    congr 1
    refine up_unique a5 b5 (fun j=>?_)
    by_cases hj:j<s.f1
    · rw [hasS_low a5 (by omega),hasS_low b5 (by omega)]
    · have:=h j
      rw [hasS_cons,hasS_cons,decide_eq_false hj] at this
      simpa using this
def spStep (out:List Sp) (i:Nat) (b:Bool):List Sp :=
  if b=true then (match out.getLast? with|some s=>if s.f1=(i:Int) then out.set (out.length-1) ⟨s.f0,s.f1+1⟩ else out++[⟨(i:Int),(i:Int)+1⟩]|none=>out++[⟨(i:Int),(i:Int)+1⟩]) else out
def spTo (bits : List Bool) : Nat → List Sp
  | 0=>[]
  | i+1=>spStep (spTo bits i) i (rdOf false bits (i:Int))
def spansB (bits:List Bool):List Sp:=spTo bits bits.length
def Fit (out:List Sp) (i:Nat) (f:Nat→Bool):Prop:=Up (-1) out∧(∀ s∈out,s.f1≤(i:Int))∧∀ j:Nat,hasS out (j:Int)=(decide (j<i) && f j)
theorem up_snoc : ∀ {l : List Sp} {lo : Int} {s : Sp}, Up lo l → (lo < s.f0) → (∀ x ∈ l, x.f1 < s.f0) → 0 ≤ s.f0 → s.f0 < s.f1 → s.f1 ≤ 256 → Up lo (l ++ [s])
  | [],lo,s,_,h1,_,h2,h3,h4=>⟨h1,h2,h3,h4,trivial⟩
  | x::l,lo,s,h,h1,h2,h3,h4,h5=>by
    obtain ⟨a,b,c,d,e⟩:=h
    exact ⟨a,b,c,d,up_snoc e (h2 x List.mem_cons_self) (fun y hy=>h2 y (List.mem_cons_of_mem _ hy)) h3 h4 h5⟩
theorem up_init : ∀ {l : List Sp} {lo : Int} {s : Sp}, Up lo (l ++ [s]) → Up lo l ∧ (∀ x ∈ l, x.f1 < s.f0) ∧ lo < s.f0
  | [],lo,s,h=>⟨trivial,(fun x hx=>by cases hx),h.1⟩
  | x::l,lo,s,h=>by
    obtain ⟨a,b,c,d,e⟩:=h
    obtain ⟨p,q,r⟩:=up_init e
    refine ⟨⟨a,b,c,d,p⟩,fun y hy=>?_,by omega⟩
    rcases List.mem_cons.mp hy with rfl|hy
    · exact r
    · exact q y hy
theorem snoc_cases (l:List Sp):l=[]∨∃ p s,l=p++[s]:=by
  rcases List.eq_nil_or_concat l with h|⟨p,s,h⟩
  · exact Or.inl h
  · exact Or.inr ⟨p,s,by rw [h,List.concat_eq_append]⟩
theorem set_last (p:List Sp) (s t:Sp):(p++[s]).set ((p++[s]).length-1) t=p++[t]:=by
  rw [List.length_append,List.length_singleton,Nat.add_sub_cancel,List.set_append_right _ _ (Nat.le_refl _),Nat.sub_self];rfl
theorem last_iff {p:List Sp} {s:Sp} {i:Nat} {f:Nat→Bool} (h:Fit (p++[s]) i f):s.f1=(i:Int)↔0<i∧f (i-1)=true:=by
  obtain ⟨h1,h2,h3⟩:=h
  obtain ⟨u1,u2,u3⟩:=up_init h1
  have hm:=up_mem h1 s (List.mem_append_right _ List.mem_cons_self)
  constructor
  · intro e
    have h0:0<i:=by omega
    have:=h3 (i-1)
    refine ⟨h0,?_⟩
    rw [hasS_app,hasS_cons,decide_eq_true (show s.f0≤((i-1:Nat):Int) by omega),decide_eq_true (show ((i-1:Nat):Int)<s.f1 by omega),decide_eq_true (show i-1<i by omega)] at this
    simpa using this.symm
  · rintro ⟨h0,hf⟩
    have:=h3 (i-1)
    rw [hf,decide_eq_true (show i-1<i by omega)] at this
    obtain ⟨x,hx,q1,q2⟩:=(hasS_iff _ _).mp this
    have hx1:=h2 x hx
    have hs1:=h2 s (List.mem_append_right _ List.mem_cons_self)
    rcases List.mem_append.mp hx with hx|hx
    · have:=u2 x hx;omega
    · obtain rfl:=List.mem_singleton.mp hx
      omega
theorem nil_iff {i:Nat} {f:Nat→Bool} (h:Fit [] i f) : ¬ (0<i∧f (i-1)=true):=by
  rintro ⟨h0,hf⟩
  have:=h.2.2 (i-1)
  rw [hf,decide_eq_true (show i-1<i by omega)] at this
  simp [hasS] at this
theorem fit_step {out:List Sp} {i:Nat} {f:Nat→Bool} (h:Fit out i f) (hi:i<256):Fit (spStep out i (f i)) (i+1) f:=by
  cases hb:f i with
  | false =>
    unfold spStep
    rw [if_neg (by simp)]
    refine ⟨h.1,fun s hs=>by have:=h.2.1 s hs;omega,fun j=>?_⟩
    rw [h.2.2 j]
    by_cases hj:j<i
    · rw [decide_eq_true hj,decide_eq_true (show j<i+1 by omega)]
    · rw [decide_eq_false hj]
      by_cases he:j=i
      · subst he;rw [hb];simp
      · rw [decide_eq_false (show ¬ j<i+1 by omega)]
  | true =>
    have bit : ∀ j:Nat,(decide (j<i+1) && f j)=((decide (j<i) && f j) || decide (j=i)):=by
      intro j
      by_cases he:j=i
      · subst he;simp [hb]
      · rw [decide_eq_false he,Bool.or_false,show decide (j<i+1)=decide (j<i) by rw [decide_eq_decide];omega]
    rcases snoc_cases out with rfl|⟨p,s,rfl⟩
    · have e:spStep [] i true=[⟨(i:Int),(i:Int)+1⟩]:=rfl
      rw [e]
      refine ⟨⟨by show (-1:Int)<(i:Int);omega,by show (0:Int)≤(i:Int);omega,by show (i:Int)<(i:Int)+1;omega,by show (i:Int)+1≤256;omega,trivial⟩,?_,fun j=>?_⟩
      · intro x hx
        obtain rfl:=List.mem_singleton.mp hx
        show (i:Int)+1≤((i+1:Nat):Int);omega
      · rw [bit,← h.2.2 j,hasS_cons]
        have:(decide ((i:Int)≤(j:Int)) && decide ((j:Int)<(i:Int)+1))=decide (j=i):=by
          rw [Bool.eq_iff_iff];simp;omega
        rw [this,Bool.or_comm]
    · obtain ⟨h1,h2,h3⟩:=h
      obtain ⟨u1,u2,u3⟩:=up_init h1
      have hm:=up_mem h1 s (List.mem_append_right _ List.mem_cons_self)
      have hs1:=h2 s (List.mem_append_right _ List.mem_cons_self)
      by_cases he:s.f1=(i:Int)
      · have e:spStep (p++[s]) i true=p++[⟨s.f0,s.f1+1⟩]:=by
          unfold spStep
          rw [if_pos rfl,List.getLast?_append,List.getLast?_singleton]
          simp only [Option.some_or]
          rw [if_pos he,set_last]
        rw [e]
        refine ⟨up_snoc u1 u3 u2 hm.2.1 (by show s.f0<s.f1+1;omega) (by show s.f1+1≤256;omega),?_,fun j=>?_⟩
        · intro x hx
          rcases List.mem_append.mp hx with hx|hx
          · have:=h2 x (List.mem_append_left _ hx);omega
          · obtain rfl:=List.mem_singleton.mp hx
            show s.f1+1≤((i+1:Nat):Int);omega
        · rw [bit,← h3 j,hasS_app,hasS_app,hasS_cons,hasS_cons,Bool.or_assoc]
          congr 1
          have:(decide (s.f0≤(j:Int)) && decide ((j:Int)<s.f1+1))=((decide (s.f0≤(j:Int)) && decide ((j:Int)<s.f1)) || decide (j=i)):=by
            rw [Bool.eq_iff_iff];simp;omega
          rw [this]
          simp [hasS]
      · have e:spStep (p++[s]) i true=(p++[s])++[⟨(i:Int),(i:Int)+1⟩]:=by
          unfold spStep
          rw [if_pos rfl,List.getLast?_append,List.getLast?_singleton]
          simp only [Option.some_or]
          rw [if_neg he]
        rw [e]
        refine ⟨up_snoc h1 (by show (-1:Int)<(i:Int);omega) (fun x hx=>?_) (by show (0:Int)≤(i:Int);omega) (by show (i:Int)<(i:Int)+1;omega) (by show (i:Int)+1≤256;omega),?_,fun j=>?_⟩
        · show x.f1<(i:Int)
          rcases List.mem_append.mp hx with hx|hx
          · have:=u2 x hx;omega
          · obtain rfl:=List.mem_singleton.mp hx;omega
        · intro x hx
          rcases List.mem_append.mp hx with hx|hx
          · have:=h2 x hx;omega
          · obtain rfl:=List.mem_singleton.mp hx
            show (i:Int)+1≤((i+1:Nat):Int);omega
        · rw [bit,← h3 j,hasS_app (p++[s]),hasS_cons]
          congr 1
          have:(decide ((i:Int)≤(j:Int)) && decide ((j:Int)<(i:Int)+1))=decide (j=i):=by
            rw [Bool.eq_iff_iff];simp;omega
          rw [this]
          simp [hasS]
def bitsF (bits:List Bool) (j:Nat):Bool:=rdOf false bits (j:Int)
theorem fit_to (bits : List Bool) (hl : bits.length ≤ 256) : ∀ i, i ≤ bits.length → Fit (spTo bits i) i (bitsF bits)
  | 0,_=>⟨trivial,(fun s hs=>by cases hs),fun j=>by simp [spTo,hasS]⟩
  | i+1,hi=>fit_step (fit_to bits hl i (by omega)) (by omega)
theorem bitsF_out (bits:List Bool) (j:Nat) (h:bits.length≤j):bitsF bits j=false:=by
  unfold bitsF rdOf
  rw [Int.toNat_natCast,List.getD_eq_getElem?_getD,List.getElem?_eq_none h];rfl
theorem spansB_up (bits:List Bool) (hl:bits.length≤256):Up (-1) (spansB bits):=(fit_to bits hl _ (Nat.le_refl _)).1
theorem spansB_has (bits:List Bool) (hl:bits.length≤256) (j:Nat):hasS (spansB bits) (j:Int)=bitsF bits j:=by
  have:=(fit_to bits hl _ (Nat.le_refl _)).2.2 j
  rw [spansB,this]
  by_cases h:j<bits.length
  · rw [decide_eq_true h];rfl
  · rw [bitsF_out bits j (by omega)];simp
theorem spTo_len (bits : List Bool) : ∀ i, (spTo bits i).length ≤ i
  | 0=>Nat.le_refl _
  | i+1=>by
    have h:=spTo_len bits i
    have:(spStep (spTo bits i) i (rdOf false bits (i:Int))).length≤(spTo bits i).length+1:=by
      unfold spStep
      split
      · split
        · split
          · simp
          · simp
        · simp
      · omega
    show (spStep _ _ _).length≤_
    omega
theorem spans_go (bits : List Bool) (hl : bits.length ≤ 256) (d : Nat) : ∀ (k i : Nat), i ≤ bits.length → bits.length - i = d → d < k →
    scan_spans.l0 k (spTo bits i) bits (bits.length:Int) (i:Int)=some (spansB bits):=by
  induction d with
  | zero =>
    intro k i hi hd hk
    obtain ⟨k,rfl⟩ : ∃ m,k=m+1:=⟨k-1,by omega⟩
    obtain rfl:i=bits.length:=by omega
    rw [scan_spans.l0,if_neg (by omega)]
    rfl
  | succ d ih =>
    intro k i hi hd hk
    obtain ⟨k,rfl⟩ : ∃ m,k=m+1:=⟨k-1,by omega⟩
    have h:(i:Int)<(bits.length:Int):=by omega
    have h0:(0:Int)≤(i:Int):=by omega
    have hw:wrap64 ((i:Int)+1)=((i+1:Nat):Int):=by rw [w64 (by omega) (by omega)];omega
    have e1:=ih k (i+1) (by omega) (by omega) (by omega)
    have hfit:=fit_to bits hl i (by omega)
    have hlen:=spTo_len bits i
    have hst:spTo bits (i+1)=spStep (spTo bits i) i (rdOf false bits (i:Int)):=rfl
    rw [hst] at e1
    rw [scan_spans.l0]
    simp only [if_pos h,if_pos h0,hw]
    generalize spTo bits i=out at *
    cases hb:rdOf false bits (i:Int) with
    | false =>
      rw [hb] at e1
      have:spStep out i false=out:=rfl
      rw [this] at e1
      simp only [Bool.false_eq_true,if_false]
      exact e1
    | true =>
      rw [hb] at e1
      simp only [if_true]
      rcases snoc_cases out with rfl|⟨p,s,rfl⟩
      · have e:spStep [] i true=[⟨(i:Int),((i+1:Nat):Int)⟩]:=by show [(⟨(i:Int),(i:Int)+1⟩:Sp)]=_;congr 2
        rw [e] at e1
        rw [if_neg (by simp),if_pos (by simp),List.nil_append];exact e1
      · have hlp:((p++[s]).length:Int)=(p.length:Int)+1:=by simp
        have hwl:wrap64 (((p++[s]).length:Int)-1)=(p.length:Int):=by
          have:(p++[s]).length=p.length+1:=by simp
          rw [w64 (by omega) (by omega)];omega
        have hrd:rd_T36 (p++[s]) (p.length:Int)=s:=by rw [rdS _ _ (by simp)];simp
        have hl2:(p++[s]).length<8796093022208:=by omega
        have hset:(p++[s]).set ((p.length:Int)).toNat ⟨s.f0,((i+1:Nat):Int)⟩=p++[⟨s.f0,((i+1:Nat):Int)⟩]:=by
          have:=set_last p s ⟨s.f0,((i+1:Nat):Int)⟩
          rwa [show (p++[s]).length-1=p.length by simp] at this
        rw [if_pos (show ((p++[s]).length:Int)>0 by omega),hwl,hrd]
        have g0:(0:Int)≤(p.length:Int):=by omega
        have g1:(p.length:Int)<((p++[s]).length:Int):=by omega
        simp only [if_pos g0,if_pos g1,if_pos hl2]
        by_cases he:s.f1=(i:Int)
        · have hs1:s.f1≤256:=by omega
          have hws:wrap64 (s.f1+1)=((i+1:Nat):Int):=by rw [w64 (by omega) (by omega)];omega
          have e:spStep (p++[s]) i true=p++[⟨s.f0,((i+1:Nat):Int)⟩]:=by
            unfold spStep
            rw [if_pos rfl,List.getLast?_append,List.getLast?_singleton]
            simp only [Option.some_or]
            rw [if_pos he,set_last,show s.f1+1=((i+1:Nat):Int) by omega]
          rw [e] at e1
          rw [if_pos he,hws,hset];exact e1
        · have e:spStep (p++[s]) i true=(p++[s])++[⟨(i:Int),((i+1:Nat):Int)⟩]:=by
            unfold spStep
            rw [if_pos rfl,List.getLast?_append,List.getLast?_singleton]
            simp only [Option.some_or]
            rw [if_neg he,show (i:Int)+1=((i+1:Nat):Int) by omega]
          rw [e] at e1
          rw [if_neg he];exact e1
theorem spans_is (bits:List Bool) (hl:bits.length≤256) (k:Nat) (hk:bits.length<k):scan_spans.f k bits=some (spansB bits):=spans_go bits hl bits.length k 0 (by omega) (by omega) hk
theorem sameS_go (a b:List Sp) (hab:a.length=b.length) (hl:a.length≤1000000) (d:Nat) : ∀ (k i:Nat),i≤a.length→a.length-i=d→d<k→fleuronref19_Same.l0 k a b (a.length:Int) (i:Int)=some (decide (a.drop i=b.drop i)):=by
  induction d with
  | zero =>
    intro k i hi hd hk
    obtain ⟨k,rfl⟩ : ∃ m,k=m+1:=⟨k-1,by omega⟩
    rw [fleuronref19_Same.l0,if_neg (by omega),List.drop_eq_nil_of_le (by omega),List.drop_eq_nil_of_le (by omega)];rfl
  | succ d ih =>
    intro k i hi hd hk
    obtain ⟨k,rfl⟩ : ∃ m,k=m+1:=⟨k-1,by omega⟩
    have hw:wrap64 ((i:Int)+1)=((i+1:Nat):Int):=by rw [w64 (by omega) (by omega)];omega
    rw [fleuronref19_Same.l0,if_pos (by omega),if_pos (by omega),if_pos (by omega),if_pos (by omega),hw,ih k (i+1) (by omega) (by omega) (by omega),rdS a i (by omega),rdS b i (by omega),List.drop_eq_getElem_cons (show i<a.length by omega),List.drop_eq_getElem_cons (show i<b.length by omega)]
    by_cases h:a[i]=b[i]
    · rw [h,if_neg (by simp)]
      exact congrArg some (decide_eq_decide.mpr ⟨fun e=>by rw [e],fun e=>(List.cons.inj e).2⟩)
    · have hne:(!(a[i].f0 == b[i].f0) || !(a[i].f1 == b[i].f1))=true:=by
        rw [Bool.or_eq_true]
        by_cases h0:a[i].f0=b[i].f0
        · right
          simp only [Bool.not_eq_true',beq_eq_false_iff_ne]
          exact fun h1=>h (sp_ext h0 h1)
        · left
          simpa using h0
      rw [if_pos hne,decide_eq_false]
      intro e
      exact h (List.cons.inj e).1
theorem sameS_is (a b:List Sp) (hl:a.length≤1000000) (k:Nat) (hk:a.length<k):fleuronref19_Same.f k a b=some (decide (a=b)):=by
  unfold fleuronref19_Same.f
  by_cases h:a.length=b.length
  · rw [if_pos (by omega)]
    have:=sameS_go a b h hl a.length k 0 (by omega) (by omega) hk
    simpa using this
  · rw [if_neg (by omega),decide_eq_false (fun e=>h (by rw [e]))]
theorem valid_go (l : List Sp) (hl : l.length ≤ 1000000) (d : Nat) : ∀ (k i : Nat) (lo : Int), i ≤ l.length → l.length - i = d → d < k →
    scan_Valid.l0 k 256 lo l (l.length:Int) (i:Int)=some (upB lo (l.drop i)):=by
  induction d with
  | zero =>
    intro k i lo hi hd hk
    obtain ⟨k,rfl⟩ : ∃ m,k=m+1:=⟨k-1,by omega⟩
    have : ¬ (i:Int)<(l.length:Int):=by omega
    rw [scan_Valid.l0,if_neg this,List.drop_eq_nil_of_le (by omega)]
    rfl
  | succ d ih =>
    intro k i lo hi hd hk
    obtain ⟨k,rfl⟩ : ∃ m,k=m+1:=⟨k-1,by omega⟩
    have h:(i:Int)<(l.length:Int):=by omega
    have hw:wrap64 ((i:Int)+1)=((i+1:Nat):Int):=by rw [w64 (by omega) (by omega)];omega
    have hd':l.drop i=l[i]::l.drop (i+1):=List.drop_eq_getElem_cons (by omega)
    have e1:=ih k (i+1) l[i].f1 (by omega) (by omega) (by omega)
    have h0:(0:Int)≤(i:Int):=by omega
    rw [scan_Valid.l0]
    simp only [if_pos h,if_pos h0]
    rw [rdS l i (by omega),hw,hd',upB,e1]
    generalize upB l[i].f1 (l.drop (i+1))=b
    generalize l[i]=s
    by_cases h1:s.f0≤lo
    · simp [h1,show ¬ lo<s.f0 by omega]
    · by_cases h2:s.f0<0
      · simp [h1,h2,show ¬ 0≤s.f0 by omega]
      · by_cases h3:s.f1≤s.f0
        · simp [h1,h2,h3,show ¬ s.f0<s.f1 by omega]
        · by_cases h4:s.f1>256
          · simp [h1,h2,h3,h4,show ¬ s.f1≤256 by omega]
          · simp [h1,h2,h3,h4,show lo<s.f0 by omega,show 0≤s.f0 by omega,show s.f0<s.f1 by omega,show s.f1≤256 by omega]
theorem validS_is (l:List Sp) (hl:l.length≤1000000) (k:Nat) (hk:l.length<k):scan_Valid.f k l 256=some (okS l):=by
  have:=(valid_go l hl l.length k 0 (-1) (by omega) (by omega) hk)
  simpa [scan_Valid.f,okS] using this
theorem rdB (f:Nat→Bool) (i:Nat) (h:i<256):rdOf false (bitsL f) (i:Int)=f i:=by
  simp [rdOf,bitsL,List.getD_eq_getElem?_getD,List.getElem?_range h]
theorem bitsF_L (f:Nat→Bool) (i:Nat) (h:i<256):bitsF (bitsL f) i=f i:=rdB f i h
theorem marked_is (l:List Sp) (j:Nat):marked l j=hasS l (j:Int):=by
  unfold marked mk noBits hasS
  rw [List.take_length,Bool.false_or]
theorem goodS_of {l:List Sp} (h:okS l=true):goodS l=true:=by
  unfold goodS
  rw [List.all_eq_true]
  intro s hs
  obtain ⟨_,a,b,c⟩:=up_mem ((upB_iff l _).mp h) s hs
  simp only [Bool.and_eq_true,decide_eq_true_eq]
  omega
def combR (op:Bool→Bool→Bool) (a b:List Sp):List Sp×Int:=if okS a && okS b then (spansB (bitsL fun j=>op (hasS a (j:Int)) (hasS b (j:Int))),0) else ([],2)
theorem comb_is (op:Bool→Bool→Bool) (a b:List Sp) (ha:a.length≤1000) (hb:b.length≤1000) (k:Nat) (hk:2000≤k):combF k op a b=some (combR op a b):=by
  unfold combF combR
  rw [validS_is a (by omega) k (by omega),validS_is b (by omega) k (by omega)]
  simp only [Option.bind_some]
  cases h0:okS a with
  | false=>simp
  | true =>
    cases h1:okS b with
    | false=>simp
    | true =>
      rw [if_pos rfl,if_pos rfl,if_pos ⟨⟨ha,hb⟩,by rw [goodS_of h0,goodS_of h1];rfl⟩]
      have e:(fun j=>op (marked a j) (marked b j))=fun j:Nat=>op (hasS a (j:Int)) (hasS b (j:Int)):=by funext j;rw [marked_is,marked_is]
      rw [e,spans_is _ (by rw [bits_len];omega) k (by rw [bits_len];omega)]
      rfl
def cntTo (f : Nat → Bool) : Nat → Int
  | 0=>0
  | n+1=>cntTo f n+if f n=true then 1 else 0
theorem cntTo_congr {f g : Nat → Bool} : ∀ (n : Nat), (∀ j, j < n → f j = g j) → cntTo f n = cntTo g n
  | 0,_=>rfl
  | n+1,h=>by rw [cntTo,cntTo,cntTo_congr n (fun j hj=>h j (by omega)),h n (by omega)]
theorem cntTo_add {f g h : Nat → Bool} : ∀ (n : Nat), (∀ j, j < n → f j = (g j || h j) ∧ (g j && h j) = false) → cntTo f n = cntTo g n + cntTo h n
  | 0,_=>rfl
  | n+1,H=>by
    obtain ⟨e1,e2⟩:=H n (by omega)
    rw [cntTo,cntTo,cntTo,cntTo_add n (fun j hj=>H j (by omega)),e1]
    cases hg:g n <;> cases hh:h n <;> simp [hg,hh] at e2 ⊢ <;> omega
theorem cntTo_bound (f : Nat → Bool) : ∀ n, 0 ≤ cntTo f n ∧ cntTo f n ≤ n
  | 0=>by simp [cntTo]
  | n+1=>by
    have:=cntTo_bound f n
    rw [cntTo]
    split <;> omega
theorem cntTo_run (a b : Int) (h0 : 0 ≤ a) (h1 : a ≤ b) : ∀ n : Nat, cntTo (fun j => decide (a ≤ (j : Int)) && decide ((j : Int) < b)) n = if (n : Int) ≤ a then 0 else if (n : Int) ≤ b then n - a else b - a
  | 0=>by rw [if_pos (by omega)];rfl
  | n+1=>by
    rw [cntTo,cntTo_run a b h0 h1 n]
    by_cases q1:a≤(n:Int)
    · by_cases q2:(n:Int)<b
      · rw [decide_eq_true q1,decide_eq_true q2,if_neg (show ¬ ((n+1:Nat):Int)≤a by omega),if_pos (show ((n+1:Nat):Int)≤b by omega)]
        simp only [Bool.and_self,if_true]
        by_cases q3:(n:Int)≤a
        · rw [if_pos q3];omega
        · rw [if_neg q3,if_pos (by omega)];omega
      · rw [decide_eq_false q2]
        simp only [Bool.and_false,Bool.false_eq_true,if_false]
        rw [if_neg (show ¬ ((n+1:Nat):Int)≤a by omega),if_neg (show ¬ ((n+1:Nat):Int)≤b by omega)]
        by_cases q3:(n:Int)≤a
        · rw [if_pos q3];omega
        · rw [if_neg q3]
          by_cases q4:(n:Int)≤b
          · rw [if_pos q4];omega
          · rw [if_neg q4];omega
    · rw [decide_eq_false q1]
      simp only [Bool.false_and,Bool.false_eq_true,if_false]
      rw [if_pos (show (n:Int)≤a by omega),if_pos (show ((n+1:Nat):Int)≤a by omega)];rfl
def widths : List Sp → Int
  | []=>0
  | s::l=>(s.f1-s.f0)+widths l
theorem widths_cnt : ∀ (l : List Sp) (lo : Int), Up lo l → widths l = cntTo (fun j => hasS l (j : Int)) 256
  | [],_,_=>by
    rw [cntTo_congr (g:=fun j:Nat=>decide ((0:Int)≤(j:Int)) && decide ((j:Int)<0)) 256 (fun j hj=>by rw [decide_eq_false (show ¬ (j:Int)<0 by omega)];simp [hasS]),cntTo_run 0 0 (by omega) (by omega) 256];rfl
  | s::l,lo,h=>by
    obtain ⟨h1,h2,h3,h4,h5⟩:=h
    rw [widths,widths_cnt l s.f1 h5,cntTo_add (g:=fun j:Nat=>decide (s.f0≤(j:Int)) && decide ((j:Int)<s.f1)) (h:=fun j:Nat=>hasS l (j:Int)) 256 (fun j hj=>⟨hasS_cons s l (j:Int),?_⟩),cntTo_run s.f0 s.f1 h2 (by omega) 256]
    · rw [if_neg (show ¬ ((256:Nat):Int)≤s.f0 by omega)]
      by_cases q:((256:Nat):Int)≤s.f1
      · rw [if_pos q];omega
      · rw [if_neg q]
    · by_cases q:(j:Int)<s.f1
      · show (_ && hasS l (j:Int))=false
        rw [hasS_low h5 (by omega)];simp
      · show ((_ && decide ((j:Int)<s.f1)) && _)=false
        rw [decide_eq_false q];simp
theorem widths_take (l:List Sp) (i:Nat) (h:i<l.length):widths (l.take (i+1))=widths (l.take i)+(l[i].f1-l[i].f0):=by
  have app : ∀ (p q:List Sp),widths (p++q)=widths p+widths q:=by
    intro p q
    induction p with
    | nil=>simp [widths]
    | cons x p ih=>rw [List.cons_append,widths,widths,ih];omega
  rw [List.take_succ_eq_append_getElem h,app]
  simp [widths]
theorem widths_bound : ∀ (l : List Sp), (∀ s ∈ l, 0 ≤ s.f0 ∧ s.f0 ≤ s.f1 ∧ s.f1 ≤ 256) → 0 ≤ widths l ∧ widths l ≤ 256 * l.length
  | [],_=>by simp [widths]
  | s::l,h=>by
    have h1:=widths_bound l (fun x hx=>h x (List.mem_cons_of_mem _ hx))
    have h2:=h s List.mem_cons_self
    rw [widths,List.length_cons]
    omega
theorem count_go (l : List Sp) (hl : l.length ≤ 1000) (hg : ∀ s ∈ l, 0 ≤ s.f0 ∧ s.f0 ≤ s.f1 ∧ s.f1 ≤ 256) (d : Nat) : ∀ (k i : Nat), i ≤ l.length → l.length - i = d → d < k →
    scan_Count.l0 k (widths (l.take i)) l (l.length:Int) (i:Int)=some (widths l,0):=by
  induction d with
  | zero =>
    intro k i hi hd hk
    obtain ⟨k,rfl⟩ : ∃ m,k=m+1:=⟨k-1,by omega⟩
    rw [scan_Count.l0,if_neg (by omega),List.take_of_length_le (by omega)]
  | succ d ih =>
    intro k i hi hd hk
    obtain ⟨k,rfl⟩ : ∃ m,k=m+1:=⟨k-1,by omega⟩
    have hw:wrap64 ((i:Int)+1)=((i+1:Nat):Int):=by rw [w64 (by omega) (by omega)];omega
    have h1:=hg l[i] (List.getElem_mem _)
    have h2:=widths_bound (l.take i) (fun s hs=>hg s (List.mem_of_mem_take hs))
    have h3:=List.length_take_le i l
    have h4:=widths_take l i (by omega)
    rw [scan_Count.l0,if_pos (by omega),if_pos (by omega),if_pos (by omega),rdS l i (by omega),hw,w64 (n:=l[i].f1-l[i].f0) (by omega) (by omega),w64 (by omega) (by omega),← h4]
    exact ih k (i+1) (by omega) (by omega) (by omega)
def countR (l:List Sp):Int×Int:=if okS l then (cntTo (fun j=>hasS l (j:Int)) 256,0) else (0,2)
theorem count_is (l:List Sp) (hl:l.length≤1000) (k:Nat) (hk:1000<k):scan_Count.f k l=some (countR l):=by
  unfold scan_Count.f countR
  rw [validS_is l (by omega) k (by omega)]
  simp only [Option.bind_some]
  cases h:okS l with
  | false=>simp
  | true =>
    simp only [if_true]
    have:=count_go l hl (goodS_facts (goodS_of h)) l.length k 0 (by omega) (by omega) (by omega)
    rw [← widths_cnt l (-1) ((upB_iff l _).mp h)]
    exact this
end Go.Proofs.Ytckjlckhjcbddaa.PH3
