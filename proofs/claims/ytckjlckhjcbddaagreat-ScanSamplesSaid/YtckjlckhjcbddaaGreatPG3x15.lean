import Derived.Test.YtckjlckhjcbddaaGreatPG3x0
namespace Go.Proofs.YtckjlckhjcbddaaGreat.PG3
open Go.RowKit Go.Proofs.YtckjlckhjcbddaaGreatW.PrintWords Go.Proofs.YtckjlckhjcbddaaGreatW.PrintLast Go.Proofs.YtckjlckhjcbddaaGreatW.PrintMore
attribute [local go_sem] max2_int min2_int max_two min_two max_three min_three max_four min_four
set_option linter.unusedVariables false
set_option linter.unusedSimpArgs false
def fleuronlaw19_few.l0:Nat→Int→Int→List (List (S47))→Int→Int→Option (Bool)
 | 0,_,_,_,_,_=>none
 | k+1,x0,x5,x8,x9,x10=>if x10<x9 then (if 0≤x10 then (if x10<(x8.length:Int) then (if (wrap64 (x5+(wrap64 (1+((rd_L2 x8 x10).length:Int)))))>x0 then (some false) else (fleuronlaw19_few.l0 k x0 (wrap64 (x5+(wrap64 (1+((rd_L2 x8 x10).length:Int))))) x8 x9 (wrap64 (x10+1)))) else (none)) else (none)) else (some true)
def fleuronlaw19_few.f (k:Nat) (a0:Int) (l1:List (List (S47))):Option (Bool):=fleuronlaw19_few.l0 k a0 0 l1 (l1.length:Int) 0
theorem fleuronlaw19_few.mono_l : ∀ k,(∀ y0 y1 y2 y3 y4,LeO (fleuronlaw19_few.l0 k y0 y1 y2 y3 y4) (fleuronlaw19_few.l0 (k+1) y0 y1 y2 y3 y4))
 | 0=>fun _ _ _ _ _ r h=>by simp [fleuronlaw19_few.l0] at h
 | k+1=>by
  have ih0:=fleuronlaw19_few.mono_l k
  ·intro y0 y1 y2 y3 y4
   unfold fleuronlaw19_few.l0
   repeat' first
   | (with_reducible exact ih0 _ _ _ _ _)
   | (with_reducible exact LeO.refl _)
   | (with_reducible exact LeO.none _)
   | (with_reducible refine LeO.ite ?_ ?_)
   | (with_reducible refine LeO.bind ?_ (fun _=>?_))
   | exact ih0 _ _ _ _ _
   | exact LeO.none _
   | refine LeO.ite ?_ ?_
   | refine LeO.bind ?_ (fun _=>?_)
theorem fleuronlaw19_few.mono : ∀ a0 a1 k,LeO (fleuronlaw19_few.f k a0 a1) (fleuronlaw19_few.f (k+1) a0 a1):=by
 intro a0 a1 k
 have ih0:=fleuronlaw19_few.mono_l k
 unfold fleuronlaw19_few.f
 repeat' first
   | (with_reducible exact ih0 _ _ _ _ _)
   | (with_reducible exact LeO.refl _)
   | (with_reducible exact LeO.none _)
   | (with_reducible refine LeO.ite ?_ ?_)
   | (with_reducible refine LeO.bind ?_ (fun _=>?_))
   | exact ih0 _ _ _ _ _
   | exact LeO.none _
   | refine LeO.ite ?_ ?_
   | refine LeO.bind ?_ (fun _=>?_)
set_option maxHeartbeats 8000000 in
set_option maxRecDepth 100000 in
theorem fleuronlaw19_few.calls (k:Nat) (a0:Int) (A1:Option Addr) (c1:Nat) (l1:List (List (S47))) (r:Bool) (w:World) (hr1:Kd.C (Kd.slice 47 k47) w A1 l1.length l1) (hc1:l1.length≤c1) (h:fleuronlaw19_few.f k a0 l1=some r) :
  Calls Tryz.prog 8 #[.int .i64 a0,.slice A1 l1.length c1] w fun e w'=>e = .returned (.bool r)∧Drawn0 w w':=by
 have HR1:=aK hr1
 have HC1:=aK hc1
 clear hr1 hc1
 have H:(fleuronlaw19_few.l0 k a0 0 l1 (l1.length:Int) 0)=some r:=h
 clear h
 have H':=aK H
 clear H
 go_enter Tryz.func8,Tryz.ntmps8
 go_wp2
 go_loopg [5,10] k (fun kq v5 v10 w'=>∃ (x5_1:Int) (x10_1:Int),v5 = .int .i64 x5_1∧v10 = .int .i64 x10_1∧Aside0 (fleuronlaw19_few.l0 kq a0 x5_1 l1 (l1.length:Int) x10_1=some r)∧Aside0 (kq≤k)∧Drawn0 w w')
 case atStart=>exact ⟨(0),(0),(by first|rfl|(simp;done)|(simp [*];done)),(by first|rfl|(simp;done)|(simp [*];done)),H',⟨Nat.le_refl _⟩,by repeat (first|exact Drawn0.refl _|apply Drawn0.step)⟩
 case round =>
  clear H'
  try clear c1
  try clear p2
  obtain ⟨x5_1,x10_1,rfl,rfl,HA,HK1,⟨m1,rfl⟩⟩:=hrel
  cases gk with
  | zero=>exact absurd HA.out (by simp [fleuronlaw19_few.l0])
  | succ k1 =>
   have H:=HA.out
   clear HA
   simp only [fleuronlaw19_few.l0] at H
   by_cases c3:x10_1<(l1.length:Int)
   ·rw [if_pos c3] at H
    have c3b0:decide (x10_1<(l1.length:Int))=true:=decide_eq_true c3
    clear c3
    by_cases c4:0≤x10_1
    ·rw [if_pos c4] at H
     have c4b0:decide (0≤x10_1)=true:=decide_eq_true c4
     clear c4
     by_cases c5:x10_1<(l1.length:Int)
     ·rw [if_pos c5] at H
      have c5b0:decide (x10_1<(l1.length:Int))=true:=decide_eq_true c5
      clear c5
      by_cases c6:(wrap64 (x5_1+(wrap64 (1+((rd_L2 l1 x10_1).length:Int)))))>a0
      ·rw [if_pos c6] at H
       have c6b0:decide (a0<(wrap64 (x5_1+(wrap64 (1+((rd_L2 l1 x10_1).length:Int))))))=true:=decide_eq_true c6
       clear c6
       obtain rfl:=Option.some.inj H
       have p377:0≤(x10_1:Int):=of_decide_eq_true (by first|(with_reducible assumption)|assumption)
       have q377:x10_1<(l1.length:Int):=of_decide_eq_true (by first|(with_reducible assumption)|assumption)
       obtain ⟨ad377,A377_0,c377_0,e377,hx377_0,hl377_0,hi377_0⟩:=at_L2 HR1.out x10_1 p377 q377
       cases e377
       have HR377_0:=aK hi377_0
       have HC377_0:=aK hl377_0
       clear hi377_0 hl377_0
       replace p377:=eq_true p377
       replace q377:=eq_true q377
       go_wp2
       go_ret
       exact ⟨by first|rfl|(simp;done)|(simp [*];done),by repeat (first|exact Drawn0.refl _|apply Drawn0.step)⟩
      ·rw [if_neg c6] at H
       have c6b0:decide (a0<(wrap64 (x5_1+(wrap64 (1+((rd_L2 l1 x10_1).length:Int))))))=false:=decide_eq_false c6
       clear c6
       have H':=aK H
       clear H
       have p377:0≤(x10_1:Int):=of_decide_eq_true (by first|(with_reducible assumption)|assumption)
       have q377:x10_1<(l1.length:Int):=of_decide_eq_true (by first|(with_reducible assumption)|assumption)
       obtain ⟨ad377,A377_0,c377_0,e377,hx377_0,hl377_0,hi377_0⟩:=at_L2 HR1.out x10_1 p377 q377
       cases e377
       have HR377_0:=aK hi377_0
       have HC377_0:=aK hl377_0
       clear hi377_0 hl377_0
       replace p377:=eq_true p377
       replace q377:=eq_true q377
       go_wp2
       go_roundg k1
       case measure=>have:=HK1.out;omega
       case rel=>exact ⟨(wrap64 (x5_1+(wrap64 (1+((rd_L2 l1 x10_1).length:Int))))),(wrap64 (x10_1+1)),(by first|rfl|(simp;done)|(simp [*];done)),(by first|rfl|(simp;done)|(simp [*];done)),H',⟨by have:=HK1.out;omega⟩,by repeat (first|exact Drawn0.refl _|apply Drawn0.step)⟩
     ·rw [if_neg c5] at H
      exact absurd H (by simp)
    ·rw [if_neg c4] at H
     exact absurd H (by simp)
   ·rw [if_neg c3] at H
    have c3b0:decide (x10_1<(l1.length:Int))=false:=decide_eq_false c3
    clear c3
    obtain rfl:=Option.some.inj H
    go_wp2
    go_ret
    exact ⟨by first|rfl|(simp;done)|(simp [*];done),by repeat (first|exact Drawn0.refl _|apply Drawn0.step)⟩
end Go.Proofs.YtckjlckhjcbddaaGreat.PG3
