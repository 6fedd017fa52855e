import Derived.Test.YtckjlckhjcbddaaGreatPG3x0
set_option maxRecDepth 100000
namespace Go.Proofs.YtckjlckhjcbddaaGreat.PG3
open Go.RowKit Go.Proofs.YtckjlckhjcbddaaGreatW.PrintWords Go.Proofs.YtckjlckhjcbddaaGreatW.PrintLast Go.Proofs.YtckjlckhjcbddaaGreatW.PrintMore
attribute [local go_sem] max2_int min2_int max_two min_two max_three min_three max_four min_four
set_option linter.unusedVariables false
set_option linter.unusedSimpArgs false
def fleuronref19_row.f (a0:Int) (a1:Int):Option (Bool):=if a0≥1 then (if a0≤256 then (if a1≥0 then (some (decide (a1≤255))) else (some false)) else (some false)) else (some false)
set_option maxHeartbeats 8000000 in
theorem fleuronref19_row.calls (a0:Int) (a1:Int) (r:Bool) (w:World) (h:fleuronref19_row.f a0 a1=some r) :
  Calls Tryz.prog 36 #[.int .i64 a0,.int .i64 a1] w fun e w'=>e = .returned (.bool r)∧Drawn0 w w':=by
 have H:(if a0≥1 then (if a0≤256 then (if a1≥0 then (some (decide (a1≤255))) else (some false)) else (some false)) else (some false))=some r:=h
 clear h
 by_cases c3:a0≥1
 ·rw [if_pos c3] at H
  have c3b0:decide (1≤a0)=true:=decide_eq_true c3
  clear c3
  by_cases c4:a0≤256
  ·rw [if_pos c4] at H
   have c4b0:decide (a0≤256)=true:=decide_eq_true c4
   clear c4
   by_cases c5:a1≥0
   ·rw [if_pos c5] at H
    have c5b0:decide (0≤a1)=true:=decide_eq_true c5
    clear c5
    obtain rfl:=Option.some.inj H
    go_enter Tryz.func36,Tryz.ntmps36
    go_wp2
    go_ret
    exact ⟨by first|rfl|(simp;done)|(simp [*];done),by repeat (first|exact Drawn0.refl _|apply Drawn0.step)⟩
   ·rw [if_neg c5] at H
    have c5b0:decide (0≤a1)=false:=decide_eq_false c5
    clear c5
    obtain rfl:=Option.some.inj H
    go_enter Tryz.func36,Tryz.ntmps36
    go_wp2
    go_ret
    exact ⟨by first|rfl|(simp;done)|(simp [*];done),by repeat (first|exact Drawn0.refl _|apply Drawn0.step)⟩
  ·rw [if_neg c4] at H
   have c4b0:decide (a0≤256)=false:=decide_eq_false c4
   clear c4
   obtain rfl:=Option.some.inj H
   go_enter Tryz.func36,Tryz.ntmps36
   go_wp2
   go_ret
   exact ⟨by first|rfl|(simp;done)|(simp [*];done),by repeat (first|exact Drawn0.refl _|apply Drawn0.step)⟩
 ·rw [if_neg c3] at H
  have c3b0:decide (1≤a0)=false:=decide_eq_false c3
  clear c3
  obtain rfl:=Option.some.inj H
  go_enter Tryz.func36,Tryz.ntmps36
  go_wp2
  go_ret
  exact ⟨by first|rfl|(simp;done)|(simp [*];done),by repeat (first|exact Drawn0.refl _|apply Drawn0.step)⟩
def fleuronref17_sign.f (a0:Int):Option (Int):=if a0>0 then (some 1) else (if a0<0 then (some (-1)) else (some 0))
set_option maxHeartbeats 8000000 in
theorem fleuronref17_sign.calls (a0:Int) (r:Int) (w:World) (h:fleuronref17_sign.f a0=some r) :
  Calls Tryz.prog 125 #[.int .i64 a0] w fun e w'=>e = .returned (.int .i64 r)∧Drawn0 w w':=by
 have H:(if a0>0 then (some 1) else (if a0<0 then (some (-1)) else (some 0)))=some r:=h
 clear h
 by_cases c2:a0>0
 ·rw [if_pos c2] at H
  have c2b0:decide (0<a0)=true:=decide_eq_true c2
  clear c2
  obtain rfl:=Option.some.inj H
  go_enter Tryz.func125,Tryz.ntmps125
  go_wp2
  go_ret
  exact ⟨by first|rfl|(simp;done)|(simp [*];done),by repeat (first|exact Drawn0.refl _|apply Drawn0.step)⟩
 ·rw [if_neg c2] at H
  have c2b0:decide (0<a0)=false:=decide_eq_false c2
  clear c2
  by_cases c3:a0<0
  ·rw [if_pos c3] at H
   have c3b0:decide (a0<0)=true:=decide_eq_true c3
   clear c3
   obtain rfl:=Option.some.inj H
   go_enter Tryz.func125,Tryz.ntmps125
   go_wp2
   go_ret
   exact ⟨by first|rfl|(simp;done)|(simp [*];done),by repeat (first|exact Drawn0.refl _|apply Drawn0.step)⟩
  ·rw [if_neg c3] at H
   have c3b0:decide (a0<0)=false:=decide_eq_false c3
   clear c3
   obtain rfl:=Option.some.inj H
   go_enter Tryz.func125,Tryz.ntmps125
   go_wp2
   go_ret
   exact ⟨by first|rfl|(simp;done)|(simp [*];done),by repeat (first|exact Drawn0.refl _|apply Drawn0.step)⟩
end Go.Proofs.YtckjlckhjcbddaaGreat.PG3
