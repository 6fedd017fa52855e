import Derived.Test.YtoemkemmiikhlaaGreatPF3x0
import Derived.Test.YtoemkemmiikhlaaGreatPF3x1
import Derived.Test.YtoemkemmiikhlaaGreatPF3x2
import Derived.Test.YtoemkemmiikhlaaGreatPF3x3
namespace Go.Proofs.YtoemkemmiikhlaaGreat.PF3
open Go.RowKit Go.Proofs.YtoemkemmiikhlaaGreatW.PrintWords Go.Proofs.YtoemkemmiikhlaaGreatW.PrintLast Go.Proofs.YtoemkemmiikhlaaGreatW.PrintMore
attribute [local go_sem] max2_int min2_int max_two min_two max_three min_three max_four min_four
set_option linter.unusedVariables false
set_option linter.unusedSimpArgs false
def fleuronref27_coord.f (a:Int):Option Bool:=some (coordB a)
theorem fleuronref27_coord.calls (a:Int) (r:Bool) (w:World) (h:fleuronref27_coord.f a=some r):Calls Tryz.prog 66 #[.int .i64 a] w fun e w'=>e = .returned (.bool r)∧Drawn0 w w':=by
 obtain rfl:=Option.some.inj h
 clear h
 unfold coordB
 by_cases c : -268435455≤a
 ·have c0:decide (-268435455≤a)=true:=decide_eq_true c
  rw [c0]
  go_enter Tryz.func66,Tryz.ntmps66
  go_wp2
  go_ret
  exact ⟨rfl,by repeat (first|exact Drawn0.refl _|apply Drawn0.step)⟩
 ·have c0:decide (-268435455≤a)=false:=decide_eq_false c
  rw [c0]
  go_enter Tryz.func66,Tryz.ntmps66
  go_wp2
  go_ret
  exact ⟨rfl,by repeat (first|exact Drawn0.refl _|apply Drawn0.step)⟩
theorem coordW_is (n:Int):fleuronref27_coord.f n=some (coordB n):=rfl
def fleuronref27_code.f (a:Int):Option Bool:=some (codeB a)
theorem fleuronref27_code.calls (a:Int) (r:Bool) (w:World) (h:fleuronref27_code.f a=some r):Calls Tryz.prog 88 #[.int .i64 a] w fun e w'=>e = .returned (.bool r)∧Drawn0 w w':=by
 obtain rfl:=Option.some.inj h
 clear h
 unfold codeB
 by_cases c:0≤a
 ·have c0:decide (0≤a)=true:=decide_eq_true c
  rw [c0]
  go_enter Tryz.func88,Tryz.ntmps88
  go_wp2
  go_ret
  exact ⟨rfl,by repeat (first|exact Drawn0.refl _|apply Drawn0.step)⟩
 ·have c0:decide (0≤a)=false:=decide_eq_false c
  rw [c0]
  go_enter Tryz.func88,Tryz.ntmps88
  go_wp2
  go_ret
  exact ⟨rfl,by repeat (first|exact Drawn0.refl _|apply Drawn0.step)⟩
theorem codeW_is (n:Int):fleuronref27_code.f n=some (codeB n):=rfl
def fleuronref27_char.f (a0 a1 a2 a3:Int):Option Bool:=some (okC ⟨a0,a1,a2,a3⟩)
set_option maxHeartbeats 8000000 in
theorem fleuronref27_char.calls (a0 a1 a2 a3 : Int) (r : Bool) (w : World) (h : fleuronref27_char.f a0 a1 a2 a3 = some r) :
  Calls Tryz.prog 38 #[.agg #[.int .i64 a0,.int .i64 a1,.int .i64 a2,.int .i64 a3]] w fun e w'=>e = .returned (.bool r)∧Below w.heap.size w w':=by
 have hu:=Tryz.underlying50
 obtain rfl:=Option.some.inj h
 clear h
 have C0:=aK (fun V=>fleuronref27_code.calls a0 _ V rfl)
 have C1:=aK (fun V=>fleuronref27_coord.calls a1 _ V rfl)
 have C2:=aK (fun V=>fleuronref27_coord.calls a2 _ V rfl)
 have C3:=aK (fun V=>fleuronref27_coord.calls a3 _ V rfl)
 unfold okC
 dsimp only
 generalize codeB a0=p at *
 generalize coordB a1=q1 at *
 generalize coordB a2=q2 at *
 generalize coordB a3=q3 at *
 have hsp:p=false∨(p=true∧q1=false)∨(p=true∧q1=true∧q2=false)∨(p=true∧q1=true∧q2=true):=by cases p <;> cases q1 <;> cases q2 <;> simp
 rcases hsp with rfl|⟨rfl,rfl⟩|⟨rfl,rfl,rfl⟩|⟨rfl,rfl,rfl⟩
 all_goals
  go_enter Tryz.func38,Tryz.ntmps38
  go_wp2_with (first|((with_reducible refine gate_dst (N:=1) rfl ?_);refine box_event ?hg (N:=1) ?hd (cs:=#[.int .i64 a0,.int .i64 a1,.int .i64 a2,.int .i64 a3]) (t:=50) ?hr ?_;(case hd=>rfl);(case hg=>rfl);(case hr=>first|(go_simp;done)|(go_simp;rfl));intro g hg V hbox hb;have HB:=aK hb;have P0:V.cell? ⟨g,0,none⟩=some (.int .i64 a0):=(blk_cell hbox 0).trans rfl;have P1:V.cell? ⟨g,1,none⟩=some (.int .i64 a1):=(blk_cell hbox 1).trans rfl;have P2:V.cell? ⟨g,2,none⟩=some (.int .i64 a2):=(blk_cell hbox 2).trans rfl;have P3:V.cell? ⟨g,3,none⟩=some (.int .i64 a3):=(blk_cell hbox 3).trans rfl;clear hbox hg hb)|(go_at_call 88;(with_reducible refine (C0.out _).mono ?_);rintro e w' ⟨rfl,⟨nd,rfl⟩⟩)|(go_at_call 66;(with_reducible refine (C1.out _).mono ?_);rintro e w' ⟨rfl,⟨nd,rfl⟩⟩)|(go_at_call 66;(with_reducible refine (C2.out _).mono ?_);rintro e w' ⟨rfl,⟨nd,rfl⟩⟩)|(go_at_call 66;(with_reducible refine (C3.out _).mono ?_);rintro e w' ⟨rfl,⟨nd,rfl⟩⟩))
  go_ret
  exact ⟨rfl,by repeat (first|(with_reducible first|exact HB.out|apply pw_below_drewN|apply below_drew1)|exact HB.out)⟩
theorem charW_is (x:S50):fleuronref27_char.f x.f0 x.f1 x.f2 x.f3=some (okC x):=rfl
theorem lessC_is (x y:S50):lessC x y=decide (x.f0<y.f0):=by
 unfold lessC cmpC cmpI
 by_cases h1:x.f0<y.f0
 ·rw [if_pos h1,decide_eq_true h1];rfl
 ·rw [if_neg h1,decide_eq_false h1]
  by_cases h2:y.f0<x.f0
  ·rw [if_pos h2];rfl
  ·rw [if_neg h2];rfl
def fleuronref27_Size.f (a:Int):Option Bool:=some (sizeB a)
theorem fleuronref27_Size.calls (a:Int) (r:Bool) (w:World) (h:fleuronref27_Size.f a=some r):Calls Tryz.prog 39 #[.int .i64 a] w fun e w'=>e = .returned (.bool r)∧Drawn0 w w':=by
 obtain rfl:=Option.some.inj h
 clear h
 unfold sizeB
 by_cases c:1≤a
 ·have c0:decide (1≤a)=true:=decide_eq_true c
  rw [c0]
  go_enter Tryz.func39,Tryz.ntmps39
  go_wp2
  go_ret
  exact ⟨rfl,by repeat (first|exact Drawn0.refl _|apply Drawn0.step)⟩
 ·have c0:decide (1≤a)=false:=decide_eq_false c
  rw [c0]
  go_enter Tryz.func39,Tryz.ntmps39
  go_wp2
  go_ret
  exact ⟨rfl,by repeat (first|exact Drawn0.refl _|apply Drawn0.step)⟩
theorem sizeW_is (n:Int):fleuronref27_Size.f n=some (sizeB n):=rfl
def fleuronref27_rule.f (a0 a1 a2 a3:Int):Option Bool:=some (okR ⟨a0,a1,a2,a3⟩)
set_option maxHeartbeats 8000000 in
theorem fleuronref27_rule.calls (a0 a1 a2 a3 : Int) (r : Bool) (w : World) (h : fleuronref27_rule.f a0 a1 a2 a3 = some r) :
  Calls Tryz.prog 56 #[.agg #[.int .i64 a0,.int .i64 a1,.int .i64 a2,.int .i64 a3]] w fun e w'=>e = .returned (.bool r)∧Below w.heap.size w w':=by
 have hu:=Tryz.underlying45
 obtain rfl:=Option.some.inj h
 clear h
 have C0:=aK (fun V=>fleuronref27_code.calls a0 _ V rfl)
 have C1:=aK (fun V=>fleuronref27_code.calls a1 _ V rfl)
 have C3:=aK (fun V=>fleuronref27_code.calls a3 _ V rfl)
 have D3:=aK (fun V=>fleuronref27_coord.calls a3 _ V rfl)
 unfold okR
 dsimp only
 generalize codeB a0=p at *
 generalize codeB a1=q at *
 generalize codeB a3=s at *
 generalize coordB a3=t at *
 by_cases h1:a2<0
 ·have d1:decide (a2<0)=true:=decide_eq_true h1
  have d2:decide (0≤a2)=false:=decide_eq_false (by omega)
  rw [d2,Bool.and_false,Bool.false_and]
  clear h1 d2
  go_enter Tryz.func56,Tryz.ntmps56
  go_wp2_with (first|((with_reducible refine gate_dst (N:=1) rfl ?_);refine box_event ?hg (N:=1) ?hd (cs:=#[.int .i64 a0,.int .i64 a1,.int .i64 a2,.int .i64 a3]) (t:=45) ?hr ?_;(case hd=>rfl);(case hg=>rfl);(case hr=>first|(go_simp;done)|(go_simp;rfl));intro g hg V hbox hb;have HB:=aK hb;have P0:V.cell? ⟨g,0,none⟩=some (.int .i64 a0):=(blk_cell hbox 0).trans rfl;have P1:V.cell? ⟨g,1,none⟩=some (.int .i64 a1):=(blk_cell hbox 1).trans rfl;have P2:V.cell? ⟨g,2,none⟩=some (.int .i64 a2):=(blk_cell hbox 2).trans rfl;have P3:V.cell? ⟨g,3,none⟩=some (.int .i64 a3):=(blk_cell hbox 3).trans rfl;clear hbox hg hb))
  go_ret
  exact ⟨rfl,by repeat (first|(with_reducible first|exact HB.out|apply pw_below_drewN|apply below_drew1)|exact HB.out)⟩
 have d1:decide (a2<0)=false:=decide_eq_false h1
 by_cases h2:a2≤4
 case neg =>
  have d2:decide (4<a2)=true:=decide_eq_true (by omega)
  have d3:decide (a2≤4)=false:=decide_eq_false h2
  rw [d3,Bool.and_false]
  clear h1 h2 d3
  go_enter Tryz.func56,Tryz.ntmps56
  go_wp2_with (first|((with_reducible refine gate_dst (N:=1) rfl ?_);refine box_event ?hg (N:=1) ?hd (cs:=#[.int .i64 a0,.int .i64 a1,.int .i64 a2,.int .i64 a3]) (t:=45) ?hr ?_;(case hd=>rfl);(case hg=>rfl);(case hr=>first|(go_simp;done)|(go_simp;rfl));intro g hg V hbox hb;have HB:=aK hb;have P0:V.cell? ⟨g,0,none⟩=some (.int .i64 a0):=(blk_cell hbox 0).trans rfl;have P1:V.cell? ⟨g,1,none⟩=some (.int .i64 a1):=(blk_cell hbox 1).trans rfl;have P2:V.cell? ⟨g,2,none⟩=some (.int .i64 a2):=(blk_cell hbox 2).trans rfl;have P3:V.cell? ⟨g,3,none⟩=some (.int .i64 a3):=(blk_cell hbox 3).trans rfl;clear hbox hg hb))
  go_ret
  exact ⟨rfl,by repeat (first|(with_reducible first|exact HB.out|apply pw_below_drewN|apply below_drew1)|exact HB.out)⟩
 have d2:decide (4<a2)=false:=decide_eq_false (by omega)
 rw [decide_eq_true (show 0≤a2 by omega),decide_eq_true h2,Bool.and_true,Bool.and_true]
 clear h1 h2
 cases p
 case false =>
  rw [Bool.and_false,Bool.false_and]
  go_enter Tryz.func56,Tryz.ntmps56
  go_wp2_with (first|((with_reducible refine gate_dst (N:=1) rfl ?_);refine box_event ?hg (N:=1) ?hd (cs:=#[.int .i64 a0,.int .i64 a1,.int .i64 a2,.int .i64 a3]) (t:=45) ?hr ?_;(case hd=>rfl);(case hg=>rfl);(case hr=>first|(go_simp;done)|(go_simp;rfl));intro g hg V hbox hb;have HB:=aK hb;have P0:V.cell? ⟨g,0,none⟩=some (.int .i64 a0):=(blk_cell hbox 0).trans rfl;have P1:V.cell? ⟨g,1,none⟩=some (.int .i64 a1):=(blk_cell hbox 1).trans rfl;have P2:V.cell? ⟨g,2,none⟩=some (.int .i64 a2):=(blk_cell hbox 2).trans rfl;have P3:V.cell? ⟨g,3,none⟩=some (.int .i64 a3):=(blk_cell hbox 3).trans rfl;clear hbox hg hb)|(go_at_call 88;(with_reducible refine (C0.out _).mono ?_);rintro e w' ⟨rfl,⟨nd,rfl⟩⟩))
  go_ret
  exact ⟨rfl,by repeat (first|(with_reducible first|exact HB.out|apply pw_below_drewN|apply below_drew1)|exact HB.out)⟩
 cases q
 case false =>
  rw [Bool.and_false]
  go_enter Tryz.func56,Tryz.ntmps56
  go_wp2_with (first|((with_reducible refine gate_dst (N:=1) rfl ?_);refine box_event ?hg (N:=1) ?hd (cs:=#[.int .i64 a0,.int .i64 a1,.int .i64 a2,.int .i64 a3]) (t:=45) ?hr ?_;(case hd=>rfl);(case hg=>rfl);(case hr=>first|(go_simp;done)|(go_simp;rfl));intro g hg V hbox hb;have HB:=aK hb;have P0:V.cell? ⟨g,0,none⟩=some (.int .i64 a0):=(blk_cell hbox 0).trans rfl;have P1:V.cell? ⟨g,1,none⟩=some (.int .i64 a1):=(blk_cell hbox 1).trans rfl;have P2:V.cell? ⟨g,2,none⟩=some (.int .i64 a2):=(blk_cell hbox 2).trans rfl;have P3:V.cell? ⟨g,3,none⟩=some (.int .i64 a3):=(blk_cell hbox 3).trans rfl;clear hbox hg hb)|(go_at_call 88;(with_reducible refine (C0.out _).mono ?_);rintro e w' ⟨rfl,⟨nd,rfl⟩⟩)|(go_at_call 88;(with_reducible refine (C1.out _).mono ?_);rintro e w' ⟨rfl,⟨nd,rfl⟩⟩))
  go_ret
  exact ⟨rfl,by repeat (first|(with_reducible first|exact HB.out|apply pw_below_drewN|apply below_drew1)|exact HB.out)⟩
 rw [Bool.and_true,Bool.and_true]
 by_cases h3:a2=0
 ·have e1:(a2 == 0)=true:=beq_iff_eq.mpr h3
  have e2:(a2 != 0)=false:=bne_eq_false_iff_eq.mpr h3
  rw [if_pos h3]
  clear h3
  cases t
  all_goals
   go_enter Tryz.func56,Tryz.ntmps56
   go_wp2_with (first|((with_reducible refine gate_dst (N:=1) rfl ?_);refine box_event ?hg (N:=1) ?hd (cs:=#[.int .i64 a0,.int .i64 a1,.int .i64 a2,.int .i64 a3]) (t:=45) ?hr ?_;(case hd=>rfl);(case hg=>rfl);(case hr=>first|(go_simp;done)|(go_simp;rfl));intro g hg V hbox hb;have HB:=aK hb;have P0:V.cell? ⟨g,0,none⟩=some (.int .i64 a0):=(blk_cell hbox 0).trans rfl;have P1:V.cell? ⟨g,1,none⟩=some (.int .i64 a1):=(blk_cell hbox 1).trans rfl;have P2:V.cell? ⟨g,2,none⟩=some (.int .i64 a2):=(blk_cell hbox 2).trans rfl;have P3:V.cell? ⟨g,3,none⟩=some (.int .i64 a3):=(blk_cell hbox 3).trans rfl;clear hbox hg hb)|(go_at_call 88;(with_reducible refine (C0.out _).mono ?_);rintro e w' ⟨rfl,⟨nd,rfl⟩⟩)|(go_at_call 88;(with_reducible refine (C1.out _).mono ?_);rintro e w' ⟨rfl,⟨nd,rfl⟩⟩)|(go_at_call 66;(with_reducible refine (D3.out _).mono ?_);rintro e w' ⟨rfl,⟨nd,rfl⟩⟩))
   go_ret
   exact ⟨rfl,by repeat (first|(with_reducible first|exact HB.out|apply pw_below_drewN|apply below_drew1)|exact HB.out)⟩
 ·have e1:(a2 == 0)=false:=beq_eq_false_iff_ne.mpr h3
  have e2:(a2 != 0)=true:=bne_iff_ne.mpr h3
  rw [if_neg h3]
  clear h3
  go_enter Tryz.func56,Tryz.ntmps56
  go_wp2_with (first|((with_reducible refine gate_dst (N:=1) rfl ?_);refine box_event ?hg (N:=1) ?hd (cs:=#[.int .i64 a0,.int .i64 a1,.int .i64 a2,.int .i64 a3]) (t:=45) ?hr ?_;(case hd=>rfl);(case hg=>rfl);(case hr=>first|(go_simp;done)|(go_simp;rfl));intro g hg V hbox hb;have HB:=aK hb;have P0:V.cell? ⟨g,0,none⟩=some (.int .i64 a0):=(blk_cell hbox 0).trans rfl;have P1:V.cell? ⟨g,1,none⟩=some (.int .i64 a1):=(blk_cell hbox 1).trans rfl;have P2:V.cell? ⟨g,2,none⟩=some (.int .i64 a2):=(blk_cell hbox 2).trans rfl;have P3:V.cell? ⟨g,3,none⟩=some (.int .i64 a3):=(blk_cell hbox 3).trans rfl;clear hbox hg hb)|(go_at_call 88;(with_reducible refine (C0.out _).mono ?_);rintro e w' ⟨rfl,⟨nd,rfl⟩⟩)|(go_at_call 88;(with_reducible refine (C1.out _).mono ?_);rintro e w' ⟨rfl,⟨nd,rfl⟩⟩)|(go_at_call 88;(with_reducible refine (C3.out _).mono ?_);rintro e w' ⟨rfl,⟨nd,rfl⟩⟩))
  go_ret
  exact ⟨rfl,by repeat (first|(with_reducible first|exact HB.out|apply pw_below_drewN|apply below_drew1)|exact HB.out)⟩
theorem ruleW_is (x:S45):fleuronref27_rule.f x.f0 x.f1 x.f2 x.f3=some (okR x):=rfl
theorem okR_code {x:S45} (h:okR x=true):(0≤x.f0∧x.f0≤255)∧(0≤x.f1∧x.f1≤255):=by
 unfold okR codeB at h
 simp only [Bool.and_eq_true,decide_eq_true_eq] at h
 omega
theorem lessR_is {x y:S45} (hx:okR x=true) (hy:okR y=true):lessR x y=decide (256*x.f0+x.f1<256*y.f0+y.f1):=by
 have h1:=okR_code hx
 have h2:=okR_code hy
 unfold lessR cmpR cmpI
 by_cases a1:x.f0<y.f0
 ·rw [if_pos a1,if_neg (by decide),decide_eq_true (show 256*x.f0+x.f1<256*y.f0+y.f1 by omega)];rfl
 ·rw [if_neg a1]
  by_cases a2:y.f0<x.f0
  ·rw [if_pos a2,if_neg (by decide),decide_eq_false (show ¬ 256*x.f0+x.f1<256*y.f0+y.f1 by omega)];rfl
  ·rw [if_neg a2,if_pos rfl]
   by_cases a3:x.f1<y.f1
   ·rw [if_pos a3,decide_eq_true (show 256*x.f0+x.f1<256*y.f0+y.f1 by omega)];rfl
   ·rw [if_neg a3,decide_eq_false (show ¬ 256*x.f0+x.f1<256*y.f0+y.f1 by omega)]
    by_cases a4:y.f1<x.f1
    ·rw [if_pos a4];rfl
    ·rw [if_neg a4];rfl
def fleuronref27_pair.f (a0 a1 a2 a3:Int):Option Int:=some (wrap64 (wrap64 (256*a0)+a1))
set_option maxHeartbeats 8000000 in
theorem fleuronref27_pair.calls (a0 a1 a2 a3 : Int) (r : Int) (w : World) (h : fleuronref27_pair.f a0 a1 a2 a3 = some r) :
  Calls Tryz.prog 57 #[.agg #[.int .i64 a0,.int .i64 a1,.int .i64 a2,.int .i64 a3]] w fun e w'=>e = .returned (.int .i64 r)∧Below w.heap.size w w':=by
 have hu:=Tryz.underlying45
 obtain rfl:=Option.some.inj h
 clear h
 go_enter Tryz.func57,Tryz.ntmps57
 go_wp2_with (first|((with_reducible refine gate_dst (N:=1) rfl ?_);refine box_event ?hg (N:=1) ?hd (cs:=#[.int .i64 a0,.int .i64 a1,.int .i64 a2,.int .i64 a3]) (t:=45) ?hr ?_;(case hd=>rfl);(case hg=>rfl);(case hr=>first|(go_simp;done)|(go_simp;rfl));intro g hg V hbox hb;have HB:=aK hb;have P0:V.cell? ⟨g,0,none⟩=some (.int .i64 a0):=(blk_cell hbox 0).trans rfl;have P1:V.cell? ⟨g,1,none⟩=some (.int .i64 a1):=(blk_cell hbox 1).trans rfl;have P2:V.cell? ⟨g,2,none⟩=some (.int .i64 a2):=(blk_cell hbox 2).trans rfl;have P3:V.cell? ⟨g,3,none⟩=some (.int .i64 a3):=(blk_cell hbox 3).trans rfl;clear hbox hg hb))
 go_ret
 exact ⟨rfl,by repeat (first|(with_reducible first|exact HB.out|apply pw_below_drewN|apply below_drew1)|exact HB.out)⟩
def pairN (x:S45):Int:=256*x.f0+x.f1
theorem pairW_is {x:S45} (hx:okR x=true):fleuronref27_pair.f x.f0 x.f1 x.f2 x.f3=some (pairN x):=by
 have h1:=okR_code hx
 unfold fleuronref27_pair.f pairN
 rw [show wrap64 (256*x.f0)=256*x.f0 by unfold wrap64;omega,show wrap64 (256*x.f0+x.f1)=256*x.f0+x.f1 by unfold wrap64;omega]
end Go.Proofs.YtoemkemmiikhlaaGreat.PF3
