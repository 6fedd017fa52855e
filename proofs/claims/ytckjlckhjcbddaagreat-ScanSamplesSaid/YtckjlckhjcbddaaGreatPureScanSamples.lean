import Derived.Test.YtckjlckhjcbddaaGreatSaysScanSamples
import Derived.Test.YtckjlckhjcbddaaGreatLibIns
import Derived.Test.YtckjlckhjcbddaaGreatLibIn
import Derived.Test.YtckjlckhjcbddaaGreatPnAlong
import Derived.Test.YtckjlckhjcbddaaGreatPnSm
import Derived.Test.YtckjlckhjcbddaaGreatPG3x36
set_option linter.unusedVariables false
set_option linter.unusedSimpArgs false
namespace Go.Proofs.YtckjlckhjcbddaaGreat.Pure
open Go.RowKit Go.Proofs.YtckjlckhjcbddaaGreat.PG3 Go.Proofs.YtckjlckhjcbddaaGreatW.PrintWords Go.Proofs.YtckjlckhjcbddaaGreatW.PrintLast Go.Proofs.YtckjlckhjcbddaaGreatW.PrintMore
section
variable (ll:List (List S47)) (hs:sumLen ll+ll.length≤1000000) (l m:List S47) (hm:m.length≤60) (q:Nat) (hq:5000000≤q) (j:Nat) (hj:j≤3)
theorem wq {i:Nat} (h:i≤1000):wrap64 ((i:Int)+1)=((i+1:Nat):Int):=by rw [wrap64_small (by omega) (by omega)];omega
include hs hq hj in
theorem even_go (even : Bool) (x39 : List Bool) (x36 x40 x41 : Int) (k : Nat) (hk : q ≤ k) : ∀ d i : Nat, i + d = 12 →
    fleuronlaw19_ScanSamples.l2 (k+d+1) ll l m (j:Int) even (rowR ll even 12 (j:Int)).1 (rowR ll even 12 (j:Int)).2 x36 x39 x40 x41 (i:Int)=fleuronlaw19_ScanSamples.l1 k ll l m (j:Int) x36 x39 x40 (wrap64 (x41+1)):=by
  intro d
  induction d with
  | zero =>
    intro i hi
    rw [show k+0+1=k+1 from rfl,fleuronlaw19_ScanSamples.l2,if_neg (by omega)]
  | succ d ih =>
    intro i hi
    have h:=ih (i+1) (by omega)
    have hr:rowOk 12 (j:Int)=true:=rowOk_iff.mpr ⟨by omega,by omega,by omega,by omega⟩
    have hp:=smp_pt (i:=(i:Int)) (j:=(j:Int)) (by omega) (by omega) (by omega) (by omega)
    have hl:=rowR_len ll even 12 (j:Int)
    rw [show k+(d+1)+1=(k+d+1)+1 from rfl,fleuronlaw19_ScanSamples.l2,if_pos (by omega),smp_is (by omega) (by omega) (by omega) (by omega)]
    simp only [Option.bind_some]
    rw [inside_is ll even (smp (i:Int) (j:Int)) hs (k+d+1) (by omega)]
    simp only [Option.bind_some]
    rw [in_is _ (by omega) (i:Int) (k+d+1) (by omega),wq (by omega)]
    simp only [Option.bind_some]
    cases hv:vallB ll with
    | false =>
      have e1:(insideR ll even (smp (i:Int) (j:Int))).2=(rowR ll even 12 (j:Int)).2:=by simp only [insideR,rowR,hv,Bool.false_and,Bool.false_eq_true,if_false]
      have e2:(rowR ll even 12 (j:Int)).2=2:=by simp only [rowR,hv,Bool.false_and,Bool.false_eq_true,if_false]
      rw [if_pos e1,if_neg (by rw [e2];decide)]
      exact h
    | true =>
      have e1:insideR ll even (smp (i:Int) (j:Int))=(insideB ll even (smp (i:Int) (j:Int)),0):=by simp only [insideR,hv,hp,Bool.and_self,if_true]
      have e2:(rowR ll even 12 (j:Int)).2=0:=by simp only [rowR,hv,hr,Bool.and_self,if_true]
      rw [e1,if_pos e2.symm,if_pos e2,row_has ll even 12 (j:Int) hv hr i (by omega),if_neg (by simp)]
      exact h
include hm in
theorem along_val (s:S47) (hs:isPt s=true):pen_Along.f l m s.f0 s.f1=some (if Pn.okPen l && Pn.lineB m then ((List.range (Pn.npc m)).any (hsA l m s.f0 s.f1),0) else (false,2)):=by
  unfold pen_Along.f
  rw [Pn.valid_is,Pn.validLine_is m (by omega),isPoint_is,hs]
  simp only [Option.bind_some]
  cases hv:Pn.okPen l with
  | false=>simp
  | true =>
    cases hl:Pn.lineB m with
    | false=>simp
    | true =>
      obtain ⟨l1,l2,l3⟩:=Pn.lineB_iff.mp hl
      simp only [if_true,Bool.and_self]
      rw [if_pos ⟨⟨l1,by omega⟩,Pn.along_ok l hv m l1 hm l3 s hs⟩]
      rfl
include hm hq hj in
theorem pen_go (x36 : Int) (k : Nat) (hk : q ≤ k) : ∀ d i : Nat, i + d = 12 →
    fleuronlaw19_ScanSamples.l3 (k+d+1) ll l m (j:Int) (Pn.penR l m 12 (j:Int)).1 (Pn.penR l m 12 (j:Int)).2 x36 (i:Int)=fleuronlaw19_ScanSamples.l0 k ll l m (wrap64 (x36+1)):=by
  intro d
  induction d with
  | zero =>
    intro i hi
    rw [show k+0+1=k+1 from rfl,fleuronlaw19_ScanSamples.l3,if_neg (by omega)]
  | succ d ih =>
    intro i hi
    have h:=ih (i+1) (by omega)
    have hr:Pn.rokP 12 (j:Int)=true:=Pn.rokP_iff.mpr ⟨by omega,by omega,by omega,by omega⟩
    have hp:=Pn.sm_pt (i:=(i:Int)) (j:=(j:Int)) (by omega) (by omega) (by omega) (by omega)
    have hl:=Pn.penR_len l m 12 (j:Int)
    rw [show k+(d+1)+1=(k+d+1)+1 from rfl,fleuronlaw19_ScanSamples.l3,if_pos (by omega),Pn.refsm (by omega) (by omega) (by omega) (by omega)]
    simp only [Option.bind_some]
    rw [along_val l m hm _ hp]
    simp only [Option.bind_some]
    rw [in_is _ (by omega) (i:Int) (k+d+1) (by omega),wq (by omega)]
    simp only [Option.bind_some]
    by_cases hv:(Pn.okPen l && Pn.lineB m)=true
    case neg =>
      have e2:(Pn.penR l m 12 (j:Int)).2=2:=by
        unfold Pn.penR
        rw [if_neg]
        intro hc;apply hv;rw [Bool.and_eq_true] at hc ⊢;rw [Bool.and_eq_true] at hc;exact ⟨hc.1,hc.2.1⟩
      rw [if_neg hv,e2,if_pos rfl,if_neg (by decide)]
      rw [e2] at h
      exact h
    case pos =>
      have hv2:=Bool.and_eq_true_iff.mp hv
      obtain ⟨l1,l2,l3⟩:=Pn.lineB_iff.mp hv2.2
      have e3:Pn.penR l m 12 (j:Int)=(spansB (Pn.bitsN 12 (Pn.cov l m (j:Int) (Pn.npc m))),0):=by unfold Pn.penR;rw [hv2.1,hv2.2,hr];rfl
      have e4:hasS (spansB (Pn.bitsN 12 (Pn.cov l m (j:Int) (Pn.npc m)))) (i:Int)=(List.range (Pn.npc m)).any (hsA l m (Pn.sm (i:Int) (j:Int)).f0 (Pn.sm (i:Int) (j:Int)).f1):=by
        rw [spansB_has _ (by rw [Pn.bitsN_len];omega)]
        unfold bitsF rdOf Pn.bitsN
        rw [Int.toNat_natCast,List.getD_eq_getElem?_getD,List.getElem?_map,List.getElem?_range (by omega)]
        simp only [Option.map_some,Option.getD_some]
        rw [Bool.eq_iff_iff,Pn.cov_iff,Pn.along_any l hv2.1 m l1 hm l3 (Pn.sm (i:Int) (j:Int)) hp]
      rw [e3] at h ⊢
      rw [if_pos hv,if_pos rfl,if_pos rfl,e4,if_neg (by simp)]
      exact h
end
section
variable (ll:List (List S47)) (hs:sumLen ll+ll.length≤1000000) (l m:List S47) (hm:m.length≤60) (q:Nat) (hq:5000000≤q)
include hs hm hq
theorem round_go (j:Nat) (hj:j≤3) (k:Nat) (hk:q≤k):fleuronlaw19_ScanSamples.l0 (k+43) ll l m (j:Int)=fleuronlaw19_ScanSamples.l0 k ll l m ((j+1:Nat):Int):=by
  have b0:fleuronlaw19_ScanSamples.l2 (k+41) ll l m (j:Int) false (rowR ll false 12 (j:Int)).1 (rowR ll false 12 (j:Int)).2 (j:Int) [false,true] 2 0 0=fleuronlaw19_ScanSamples.l1 (k+28) ll l m (j:Int) (j:Int) [false,true] 2 (wrap64 (0+1)):=even_go ll hs l m q hq j hj false [false,true] (j:Int) 2 0 (k+28) (by omega) 12 0 rfl
  have b1:fleuronlaw19_ScanSamples.l2 (k+27) ll l m (j:Int) true (rowR ll true 12 (j:Int)).1 (rowR ll true 12 (j:Int)).2 (j:Int) [false,true] 2 1 0=fleuronlaw19_ScanSamples.l1 (k+14) ll l m (j:Int) (j:Int) [false,true] 2 (wrap64 (1+1)):=even_go ll hs l m q hq j hj true [false,true] (j:Int) 2 1 (k+14) (by omega) 12 0 rfl
  have b2:fleuronlaw19_ScanSamples.l3 (k+13) ll l m (j:Int) (Pn.penR l m 12 (j:Int)).1 (Pn.penR l m 12 (j:Int)).2 (j:Int) 0=fleuronlaw19_ScanSamples.l0 k ll l m (wrap64 ((j:Int)+1)):=pen_go ll l m hm q hq j hj (j:Int) k hk 12 0 rfl
  rw [wq (by omega)] at b2
  rw [show wrap64 ((0:Int)+1)=1 by rw [wrap64_small (by omega) (by omega)];rfl] at b0
  rw [show wrap64 ((1:Int)+1)=2 by rw [wrap64_small (by omega) (by omega)];rfl] at b1
  have c0:fleuronlaw19_ScanSamples.l1 (k+42) ll l m (j:Int) (j:Int) [false,true] 2 0=fleuronlaw19_ScanSamples.l2 (k+41) ll l m (j:Int) false (rowR ll false 12 (j:Int)).1 (rowR ll false 12 (j:Int)).2 (j:Int) [false,true] 2 0 0:=by
    rw [fleuronlaw19_ScanSamples.l1,if_pos (by omega),if_pos (by omega),if_pos (by simp),show rdOf false [false,true] 0=false from rfl,row_is ll hs false 12 (j:Int) (k+41) (by omega)];rfl
  have c1:fleuronlaw19_ScanSamples.l1 (k+28) ll l m (j:Int) (j:Int) [false,true] 2 1=fleuronlaw19_ScanSamples.l2 (k+27) ll l m (j:Int) true (rowR ll true 12 (j:Int)).1 (rowR ll true 12 (j:Int)).2 (j:Int) [false,true] 2 1 0:=by
    rw [fleuronlaw19_ScanSamples.l1,if_pos (by omega),if_pos (by omega),if_pos (by simp),show rdOf false [false,true] 1=true from rfl,row_is ll hs true 12 (j:Int) (k+27) (by omega)];rfl
  have c2:fleuronlaw19_ScanSamples.l1 (k+14) ll l m (j:Int) (j:Int) [false,true] 2 2=fleuronlaw19_ScanSamples.l3 (k+13) ll l m (j:Int) (Pn.penR l m 12 (j:Int)).1 (Pn.penR l m 12 (j:Int)).2 (j:Int) 0:=by
    rw [fleuronlaw19_ScanSamples.l1,if_neg (by omega),Pn.pen_is l m (by omega) 12 (j:Int) (k+13) (by omega)];rfl
  have c:fleuronlaw19_ScanSamples.l0 (k+43) ll l m (j:Int)=fleuronlaw19_ScanSamples.l1 (k+42) ll l m (j:Int) (j:Int) [false,true] 2 0:=by
    rw [fleuronlaw19_ScanSamples.l0,if_pos (by omega)];rfl
  exact c.trans (c0.trans (b0.trans (c1.trans (b1.trans (c2.trans b2)))))
theorem all_go:fleuronlaw19_ScanSamples.l0 (q+173) ll l m 0=some true:=by
  have a0:=round_go ll hs l m hm q hq 0 (by omega) (q+130) (by omega)
  have a1:=round_go ll hs l m hm q hq 1 (by omega) (q+87) (by omega)
  have a2:=round_go ll hs l m hm q hq 2 (by omega) (q+44) (by omega)
  have a3:=round_go ll hs l m hm q hq 3 (by omega) (q+1) (by omega)
  have a4:fleuronlaw19_ScanSamples.l0 (q+1) ll l m 4=some true:=by rw [fleuronlaw19_ScanSamples.l0,if_neg (by omega)];rfl
  exact a0.trans (a1.trans (a2.trans (a3.trans a4)))
end
theorem ScanSamples:fleuronlaw19_ScanSamples.Pure:=by
  intro ll l m hll hl hm
  have h0:ll.length≤100000000000000:=by have:=hll.1.1;omega
  have h00 : ∀ x∈ll,x.length≤100000000000000:=fun x hx=>by have:=(hll.2 x hx).1.1;omega
  have h1:l.length≤100000000000000:=by have:=hl.1.1;omega
  have h2:m.length≤100000000000000:=by have:=hm.1.1;omega
  obtain ⟨q,hq⟩ : ∃ q:Nat,5000000+ll.length≤q:=⟨_,Nat.le_refl _⟩
  refine ⟨q+174,?_⟩
  unfold fleuronlaw19_ScanSamples.f
  have q1 : ∀ x:List S47,(sumLen [x]:Int)+(([x]:List (List S47)).length:Int)=(x.length:Int)+1:=by intro x;simp [sumLen]
  rw [few_is 200 (by omega) (by omega) ll h00 h0 (q+174) (by omega),few_is 70 (by omega) (by omega) [l] (by simpa using h1) (by simp) (q+174) (by simp),few_is 20 (by omega) (by omega) [m] (by simpa using h2) (by simp) (q+174) (by simp),q1,q1]
  simp only [Option.bind_some]
  have aw:fleuronlaw19_ScanSamples.j0 (q+174) ll l m true=some true:=by rw [fleuronlaw19_ScanSamples.j0,if_pos rfl];rfl
  by_cases hf:(sumLen ll:Int)+(ll.length:Int)≤200
  case neg=>rw [decide_eq_false hf,if_neg (by decide)];exact aw
  rw [decide_eq_true hf,if_pos rfl]
  by_cases hg:(l.length:Int)+1≤70
  case neg=>rw [decide_eq_false hg,if_neg (by decide)];exact aw
  rw [decide_eq_true hg,if_pos rfl]
  by_cases hh:(m.length:Int)+1≤20
  case neg=>rw [decide_eq_false hh];exact aw
  rw [decide_eq_true hh]
  show fleuronlaw19_ScanSamples.j0 (q+174) ll l m false=some true
  rw [fleuronlaw19_ScanSamples.j0,if_neg (by decide)]
  exact all_go ll (by omega) l m (by omega) q (by omega)
end Go.Proofs.YtckjlckhjcbddaaGreat.Pure
