import Derived.Test.YtckjlckhjcbddaaSaysScanCounts
import Derived.Test.YtckjlckhjcbddaaCtAll
set_option linter.unusedVariables false
set_option linter.unusedSimpArgs false
namespace Go.Proofs.Ytckjlckhjcbddaa.Pure
open Go.RowKit Go.Proofs.Ytckjlckhjcbddaa.PH3 Go.Proofs.YtckjlckhjcbddaaW.PrintWords Go.Proofs.YtckjlckhjcbddaaW.PrintLast Go.Proofs.YtckjlckhjcbddaaW.PrintMore
theorem comb_len (op:Bool→Bool→Bool) (a b:List Sp):(combR op a b).1.length≤256:=by
  unfold combR
  split
  · have:=spTo_len (bitsL fun j=>op (hasS a (j:Int)) (hasS b (j:Int))) 256
    unfold spansB;rw [bits_len];exact this
  · simp
theorem has_out {l:List Sp} (h:Up (-1) l) (i:Int) (hi:i<0∨256≤i):hasS l i=false:=by
  rw [Bool.eq_false_iff]
  intro hc
  obtain ⟨s,hs,h1,h2⟩:=(hasS_iff l i).mp hc
  have:=up_mem h s hs
  omega
theorem has_bits (f:Nat→Bool) (j:Nat) (hj:j<256):hasS (spansB (bitsL f)) (j:Int)=f j:=by
  rw [spansB_has _ (by rw [bits_len];omega),bitsF_L f j hj]
theorem eq_bits {l:List Sp} (h:Up (-1) l) (f:Nat→Bool) (he : ∀ j:Nat,j<256→f j=hasS l (j:Int)):spansB (bitsL f)=l:=by
  have hu:=spansB_up (bitsL f) (by rw [bits_len];omega)
  refine up_unique hu h (fun j=>?_)
  by_cases hj:j<0∨256≤j
  · rw [has_out hu j hj,has_out h j hj]
  · obtain ⟨n,rfl⟩ : ∃ n:Nat,j=n:=⟨j.toNat,by omega⟩
    rw [has_bits f n (by omega),he n (by omega)]
theorem ScanCounts:fleuronlaw19_ScanCounts.Pure:=by
  intro a b ha hb
  obtain ⟨k,hk⟩ : ∃ k:Nat,300000≤k:=⟨_,Nat.le_refl _⟩
  refine ⟨k+2,?_⟩
  unfold fleuronlaw19_ScanCounts.f
  have hawake:fleuronlaw19_ScanCounts.j0 (k+2) a b true=some true:=by rw [fleuronlaw19_ScanCounts.j0,if_pos rfl];rfl
  by_cases h1:(a.length:Int)>300
  · rw [if_pos h1];exact hawake
  rw [if_neg h1]
  by_cases h2:(b.length:Int)>300
  · rw [decide_eq_true h2];exact hawake
  rw [decide_eq_false h2]
  have la:a.length≤1000:=by omega
  have lb:b.length≤1000:=by omega
  have o (x y:List Sp) (hx:x.length≤1000) (hy:y.length≤1000) (m:Nat) (hm:300000≤m):scan_Or.f m x y=some (combR (fun p q=>p || q) x y):=by unfold scan_Or.f;exact comb_is _ x y hx hy m (by omega)
  have n (x y:List Sp) (hx:x.length≤1000) (hy:y.length≤1000) (m:Nat) (hm:300000≤m):scan_And.f m x y=some (combR (fun p q=>p && q) x y):=by unfold scan_And.f;exact comb_is _ x y hx hy m (by omega)
  have w (x y:List Sp) (hx:x.length≤1000) (hy:y.length≤1000) (m:Nat) (hm:300000≤m):scan_Without.f m x y=some (combR (fun p q=>p && !q) x y):=by unfold scan_Without.f;exact comb_is _ x y hx hy m (by omega)
  have l1:=comb_len (fun p q=>p || q) a b
  have l2:=comb_len (fun p q=>p && q) a b
  have l3:=comb_len (fun p q=>p && !q) a b
  rw [fleuronlaw19_ScanCounts.j0,if_neg (by decide),o a b la lb _ (by omega),n a b la lb _ (by omega),w a b la lb _ (by omega)]
  simp only [Option.bind_some]
  by_cases hok:(okS a && okS b)=true
  case neg =>
    have e : ∀ op,combR op a b=([],2):=fun op=>by unfold combR;rw [if_neg hok]
    rw [e,e,e,if_neg (by decide),if_pos rfl,if_pos rfl,if_pos rfl];rfl
  case pos =>
    have hok2:=Bool.and_eq_true_iff.mp hok
    have ua:=(upB_iff a _).mp hok2.1
    have ub:=(upB_iff b _).mp hok2.2
    have e : ∀ op,combR op a b=(spansB (bitsL fun j=>op (hasS a (j:Int)) (hasS b (j:Int))),0):=fun op=>by unfold combR;rw [if_pos hok]
    have up : ∀ f:Nat→Bool,Up (-1) (spansB (bitsL f)):=fun f=>spansB_up (bitsL f) (by rw [bits_len];omega)
    have cu : ∀ l:List Sp,Up (-1) l→countR l=(cntTo (fun j=>hasS l (j:Int)) 256,0):=fun l h=>by unfold countR;rw [if_pos (show okS l=true from (upB_iff l _).mpr h)]
    have cb : ∀ f:Nat→Bool,countR (spansB (bitsL f))=(cntTo f 256,0):=fun f=>by rw [cu _ (up f),cntTo_congr 256 (fun j hj=>has_bits f j hj)]
    rw [e] at l1 l2 l3
    rw [e,e,e,if_pos rfl]
    simp only
    rw [count_is a la _ (by omega),count_is b lb _ (by omega),count_is _ (by simp only at l1;omega) _ (by omega),count_is _ (by simp only at l2;omega) _ (by omega),count_is _ (by simp only at l3;omega) _ (by omega),cu a ua,cu b ub,cb,cb,cb]
    simp only [Option.bind_some,if_true,bne_self_eq_false]
    rw [fleuronlaw19_ScanCounts.j1,if_neg (by decide),o _ _ (by simp only at l2;omega) (by simp only at l3;omega) _ (by omega),o b a lb la _ (by omega)]
    simp only [Option.bind_some]
    have q1:combR (fun p q=>p || q) (spansB (bitsL fun j=>hasS a (j:Int) && hasS b (j:Int))) (spansB (bitsL fun j=>hasS a (j:Int) && !hasS b (j:Int)))=(a,0):=by
      unfold combR
      rw [if_pos (by rw [show okS (spansB (bitsL fun j=>hasS a (j:Int) && hasS b (j:Int)))=true from (upB_iff _ _).mpr (up _),show okS (spansB (bitsL fun j=>hasS a (j:Int) && !hasS b (j:Int)))=true from (upB_iff _ _).mpr (up _)];rfl)]
      rw [eq_bits ua _ (fun j hj=>?_)]
      rw [has_bits _ j hj,has_bits _ j hj]
      cases hasS a (j:Int) <;> cases hasS b (j:Int) <;> rfl
    have q2:combR (fun p q=>p || q) b a=(spansB (bitsL fun j=>hasS a (j:Int) || hasS b (j:Int)),0):=by
      unfold combR
      rw [if_pos (by rw [hok2.1,hok2.2];rfl)]
      have:(fun j:Nat=>(hasS b (j:Int) || hasS a (j:Int)))=fun j:Nat=>(hasS a (j:Int) || hasS b (j:Int)):=by funext j;exact Bool.or_comm _ _
      rw [this]
    rw [q1,q2]
    have s1:cntTo (fun j=>hasS a (j:Int)) 256+cntTo (fun j=>hasS b (j:Int)) 256=cntTo (fun j=>hasS a (j:Int) || hasS b (j:Int)) 256+cntTo (fun j=>hasS a (j:Int) && hasS b (j:Int)) 256:=by
      have t1:=cntTo_add (f:=fun j=>hasS a (j:Int) || hasS b (j:Int)) (g:=fun j=>hasS a (j:Int)) (h:=fun j=>!hasS a (j:Int) && hasS b (j:Int)) 256 (fun j _=>by cases hasS a (j:Int) <;> cases hasS b (j:Int) <;> decide)
      have t2:=cntTo_add (f:=fun j=>hasS b (j:Int)) (g:=fun j=>hasS a (j:Int) && hasS b (j:Int)) (h:=fun j=>!hasS a (j:Int) && hasS b (j:Int)) 256 (fun j _=>by cases hasS a (j:Int) <;> cases hasS b (j:Int) <;> decide)
      omega
    have s2:cntTo (fun j=>hasS a (j:Int) && hasS b (j:Int)) 256+cntTo (fun j=>hasS a (j:Int) && !hasS b (j:Int)) 256=cntTo (fun j=>hasS a (j:Int)) 256:=by
      have t1:=cntTo_add (f:=fun j=>hasS a (j:Int)) (g:=fun j=>hasS a (j:Int) && hasS b (j:Int)) (h:=fun j=>hasS a (j:Int) && !hasS b (j:Int)) 256 (fun j _=>by cases hasS a (j:Int) <;> cases hasS b (j:Int) <;> decide)
      omega
    rw [s1,s2,if_pos rfl]
    have bd:=cntTo_bound (fun j=>hasS a (j:Int)) 256
    rw [w64 (by omega) (by omega),if_pos rfl,if_pos rfl,sameS_is a a (by omega) _ (by omega),decide_eq_true rfl]
    simp only [Option.bind_some,if_true]
    rw [sameS_is _ _ (by simp only at l1;omega) _ (by simp only at l1;omega),decide_eq_true rfl]
    simp only [Option.bind_some,if_true]
    rfl
end Go.Proofs.Ytckjlckhjcbddaa.Pure
