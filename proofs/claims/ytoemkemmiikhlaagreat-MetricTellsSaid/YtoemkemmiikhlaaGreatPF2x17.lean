import Derived.Test.YtoemkemmiikhlaaGreatPF2x0
set_option maxRecDepth 100000
namespace Go.Proofs.YtoemkemmiikhlaaGreat.PF2
open Go.RowKit Go.Proofs.YtoemkemmiikhlaaGreatW.PrintWords Go.Proofs.YtoemkemmiikhlaaGreatW.PrintLast Go.Proofs.YtoemkemmiikhlaaGreatW.PrintMore
attribute [local go_sem] max2_int min2_int max_two min_two max_three min_three max_four min_four
set_option linter.unusedVariables false
set_option linter.unusedSimpArgs false
def fleuronref27_coord.f (a0:Int):Option (Bool):=if a0≥(-268435455) then (some (decide (a0≤268435455))) else (some false)
set_option maxHeartbeats 8000000 in
theorem fleuronref27_coord.calls (a0 : Int) (r : Bool) (w : World) (h : fleuronref27_coord.f a0 = some r) :
  Calls Tryz.prog 66 #[.int .i64 a0] w fun e w'=>e = .returned (.bool r)∧Drawn0 w w':=by
 have H:(if a0≥(-268435455) then (some (decide (a0≤268435455))) else (some false))=some r:=h
 clear h
 by_cases c2:a0≥(-268435455)
 ·rw [if_pos c2] at H
  have c2b0:decide ((-268435455)≤a0)=true:=decide_eq_true c2
  clear c2
  obtain rfl:=Option.some.inj H
  go_enter Tryz.func66,Tryz.ntmps66
  go_wp2
  go_ret
  exact ⟨by first|rfl|(simp;done)|(simp [*];done),by repeat (first|exact Drawn0.refl _|apply Drawn0.step)⟩
 ·rw [if_neg c2] at H
  have c2b0:decide ((-268435455)≤a0)=false:=decide_eq_false c2
  clear c2
  obtain rfl:=Option.some.inj H
  go_enter Tryz.func66,Tryz.ntmps66
  go_wp2
  go_ret
  exact ⟨by first|rfl|(simp;done)|(simp [*];done),by repeat (first|exact Drawn0.refl _|apply Drawn0.step)⟩
def fleuronref27_code.f (a0:Int):Option (Bool):=if a0≥0 then (some (decide (a0≤255))) else (some false)
set_option maxHeartbeats 8000000 in
theorem fleuronref27_code.calls (a0 : Int) (r : Bool) (w : World) (h : fleuronref27_code.f a0 = some r) :
  Calls Tryz.prog 88 #[.int .i64 a0] w fun e w'=>e = .returned (.bool r)∧Drawn0 w w':=by
 have H:(if a0≥0 then (some (decide (a0≤255))) else (some false))=some r:=h
 clear h
 by_cases c2:a0≥0
 ·rw [if_pos c2] at H
  have c2b0:decide (0≤a0)=true:=decide_eq_true c2
  clear c2
  obtain rfl:=Option.some.inj H
  go_enter Tryz.func88,Tryz.ntmps88
  go_wp2
  go_ret
  exact ⟨by first|rfl|(simp;done)|(simp [*];done),by repeat (first|exact Drawn0.refl _|apply Drawn0.step)⟩
 ·rw [if_neg c2] at H
  have c2b0:decide (0≤a0)=false:=decide_eq_false c2
  clear c2
  obtain rfl:=Option.some.inj H
  go_enter Tryz.func88,Tryz.ntmps88
  go_wp2
  go_ret
  exact ⟨by first|rfl|(simp;done)|(simp [*];done),by repeat (first|exact Drawn0.refl _|apply Drawn0.step)⟩
def fleuronref27_char.f (a0_0:Int) (a0_1:Int) (a0_2:Int) (a0_3:Int):Option (Bool):=(fleuronref27_code.f a0_0).bind fun t134=>(if t134=true then ((fleuronref27_coord.f a0_1).bind fun t135=>(if t135=true then ((fleuronref27_coord.f a0_2).bind fun t136=>(if t136=true then ((fleuronref27_coord.f a0_3).bind fun t137=>(some t137)) else (some false))) else (some false))) else (some false))
set_option maxHeartbeats 8000000 in
theorem fleuronref27_char.calls (a0_0 : Int) (a0_1 : Int) (a0_2 : Int) (a0_3 : Int) (r : Bool) (w : World) (h : fleuronref27_char.f a0_0 a0_1 a0_2 a0_3 = some r) :
  Calls Tryz.prog 38 #[.agg #[.int .i64 a0_0,.int .i64 a0_1,.int .i64 a0_2,.int .i64 a0_3]] w fun e w'=>e = .returned (.bool r)∧Below w.heap.size w w':=by
 have hu50:=Tryz.underlying50
 have HB:=aK (Below.refl w.heap.size w)
 have H:((fleuronref27_code.f a0_0).bind fun t134=>(if t134=true then ((fleuronref27_coord.f a0_1).bind fun t135=>(if t135=true then ((fleuronref27_coord.f a0_2).bind fun t136=>(if t136=true then ((fleuronref27_coord.f a0_3).bind fun t137=>(some t137)) else (some false))) else (some false))) else (some false)))=some r:=h
 clear h
 replace H:=Option.bind_eq_some_iff.mp H
 obtain ⟨t134,A20,H⟩:=H
 replace H:(if t134=true then ((fleuronref27_coord.f a0_1).bind fun t135=>(if t135=true then ((fleuronref27_coord.f a0_2).bind fun t136=>(if t136=true then ((fleuronref27_coord.f a0_3).bind fun t137=>(some t137)) else (some false))) else (some false))) else (some false))=some r:=H
 have A2:=aK A20
 clear A20
 by_cases c3:t134=true
 ·subst c3
  have H1:((fleuronref27_coord.f a0_1).bind fun t135=>(if t135=true then ((fleuronref27_coord.f a0_2).bind fun t136=>(if t136=true then ((fleuronref27_coord.f a0_3).bind fun t137=>(some t137)) else (some false))) else (some false)))=some r:=by rw [if_pos rfl] at H;exact H
  clear H
  have H:=H1
  clear H1
  replace H:=Option.bind_eq_some_iff.mp H
  obtain ⟨t135,A40,H⟩:=H
  replace H:(if t135=true then ((fleuronref27_coord.f a0_2).bind fun t136=>(if t136=true then ((fleuronref27_coord.f a0_3).bind fun t137=>(some t137)) else (some false))) else (some false))=some r:=H
  have A4:=aK A40
  clear A40
  by_cases c5:t135=true
  ·subst c5
   have H1:((fleuronref27_coord.f a0_2).bind fun t136=>(if t136=true then ((fleuronref27_coord.f a0_3).bind fun t137=>(some t137)) else (some false)))=some r:=by rw [if_pos rfl] at H;exact H
   clear H
   have H:=H1
   clear H1
   replace H:=Option.bind_eq_some_iff.mp H
   obtain ⟨t136,A60,H⟩:=H
   replace H:(if t136=true then ((fleuronref27_coord.f a0_3).bind fun t137=>(some t137)) else (some false))=some r:=H
   have A6:=aK A60
   clear A60
   by_cases c7:t136=true
   ·subst c7
    have H1:((fleuronref27_coord.f a0_3).bind fun t137=>(some t137))=some r:=by rw [if_pos rfl] at H;exact H
    clear H
    have H:=H1
    clear H1
    replace H:=Option.bind_eq_some_iff.mp H
    obtain ⟨t137,A80,H⟩:=H
    replace H:(some t137)=some r:=H
    have A8:=aK A80
    clear A80
    obtain rfl:=Option.some.inj H
    go_enter Tryz.func38,Tryz.ntmps38
    go_wp2_with (first|((with_reducible refine gate_dst (N:=1) rfl ?_);refine box_event ?hg (N:=1) ?hd (cs:=#[.int .i64 a0_0,.int .i64 a0_1,.int .i64 a0_2,.int .i64 a0_3]) (t:=50) ?hr ?_;(case hd=>rfl);(case hg=>rfl);(case hr=>first|(go_simp;done)|(go_simp;rfl));intro gb133 hg w9 hbox hb;have n0_:=aK (below_step (by repeat (first|(with_reducible first|exact HB.out|apply below_alloc|apply pw_below_drewN|apply below_drew1)|exact HB.out)) hb);have n1_:=aK (hbox);have n2_:=aK ((by rw [hg];exact (below_size (by repeat (first|(with_reducible first|exact HB.out|apply below_alloc|apply pw_below_drewN|apply below_drew1)|exact HB.out))):w.heap.size≤gb133));have n3_:=n2_;clear HB;have HB:=n0_;have BK133:=n1_;have GW133:=n2_;have GE133:=n3_;clear n0_ n1_ n2_ n3_;clear hb hbox hg;have hcz10_0:w9.cell? ⟨gb133,0,none⟩=some (.int .i64 a0_0):=(blk_cell BK133.out 0).trans rfl;have hcz10_1:w9.cell? ⟨gb133,1,none⟩=some (.int .i64 a0_1):=(blk_cell BK133.out 1).trans rfl;have hcz10_2:w9.cell? ⟨gb133,2,none⟩=some (.int .i64 a0_2):=(blk_cell BK133.out 2).trans rfl;have hcz10_3:w9.cell? ⟨gb133,3,none⟩=some (.int .i64 a0_3):=(blk_cell BK133.out 3).trans rfl;have hfz10_0:=blk_frozen BK133.out 0;have hfz10_1:=blk_frozen BK133.out 1;have hfz10_2:=blk_frozen BK133.out 2;have hfz10_3:=blk_frozen BK133.out 3)|((with_reducible refine gate_callee (f:=88) rfl ?_);refine goesL_ (some 5) rfl rfl Tryz.func88 (by kernel_rfl) rfl #[.int .i64 a0_0] rfl (by (try simp only [List.map_toArray,List.map_cons,List.map_nil]);first|done|rfl|(simp only [List.length_drop,List.length_take];rfl)) ?_;(with_reducible refine (fleuronref27_code.calls a0_0 true _ A2.out).mono ?_);rintro e w' ⟨rfl,⟨nd,rfl⟩⟩;refine ⟨_,rfl,?_⟩)|(go_at_call 66;(with_reducible refine (fleuronref27_coord.calls a0_1 true _ A4.out).mono ?_);rintro e w' ⟨rfl,⟨nd,rfl⟩⟩)|(go_at_call 66;(with_reducible refine (fleuronref27_coord.calls a0_2 true _ A6.out).mono ?_);rintro e w' ⟨rfl,⟨nd,rfl⟩⟩)|(go_at_call 66;(with_reducible refine (fleuronref27_coord.calls a0_3 t137 _ A8.out).mono ?_);rintro e w' ⟨rfl,⟨nd,rfl⟩⟩))
    go_ret
    exact ⟨by first|rfl|(simp [errW_none,errW_some] <;> rfl)|(simp [*,errW_none,errW_some] <;> rfl),by repeat (first|(with_reducible first|exact HB.out|apply below_alloc|apply pw_below_drewN|apply below_drew1|refine below_set ?_ GE133.out)|exact HB.out)⟩
   ·replace c7:=Bool.eq_false_iff.mpr c7
    subst c7
    have H1:(some false)=some r:=by rw [if_neg (show ¬ (false=true) by decide)] at H;exact H
    clear H
    have H:=H1
    clear H1
    obtain rfl:=Option.some.inj H
    go_enter Tryz.func38,Tryz.ntmps38
    go_wp2_with (first|((with_reducible refine gate_dst (N:=1) rfl ?_);refine box_event ?hg (N:=1) ?hd (cs:=#[.int .i64 a0_0,.int .i64 a0_1,.int .i64 a0_2,.int .i64 a0_3]) (t:=50) ?hr ?_;(case hd=>rfl);(case hg=>rfl);(case hr=>first|(go_simp;done)|(go_simp;rfl));intro gb133 hg w11 hbox hb;have n0_:=aK (below_step (by repeat (first|(with_reducible first|exact HB.out|apply below_alloc|apply pw_below_drewN|apply below_drew1)|exact HB.out)) hb);have n1_:=aK (hbox);have n2_:=aK ((by rw [hg];exact (below_size (by repeat (first|(with_reducible first|exact HB.out|apply below_alloc|apply pw_below_drewN|apply below_drew1)|exact HB.out))):w.heap.size≤gb133));have n3_:=n2_;clear HB;have HB:=n0_;have BK133:=n1_;have GW133:=n2_;have GE133:=n3_;clear n0_ n1_ n2_ n3_;clear hb hbox hg;have hcz12_0:w11.cell? ⟨gb133,0,none⟩=some (.int .i64 a0_0):=(blk_cell BK133.out 0).trans rfl;have hcz12_1:w11.cell? ⟨gb133,1,none⟩=some (.int .i64 a0_1):=(blk_cell BK133.out 1).trans rfl;have hcz12_2:w11.cell? ⟨gb133,2,none⟩=some (.int .i64 a0_2):=(blk_cell BK133.out 2).trans rfl;have hcz12_3:w11.cell? ⟨gb133,3,none⟩=some (.int .i64 a0_3):=(blk_cell BK133.out 3).trans rfl;have hfz12_0:=blk_frozen BK133.out 0;have hfz12_1:=blk_frozen BK133.out 1;have hfz12_2:=blk_frozen BK133.out 2;have hfz12_3:=blk_frozen BK133.out 3)|((with_reducible refine gate_callee (f:=88) rfl ?_);refine goesL_ (some 5) rfl rfl Tryz.func88 (by kernel_rfl) rfl #[.int .i64 a0_0] rfl (by (try simp only [List.map_toArray,List.map_cons,List.map_nil]);first|done|rfl|(simp only [List.length_drop,List.length_take];rfl)) ?_;(with_reducible refine (fleuronref27_code.calls a0_0 true _ A2.out).mono ?_);rintro e w' ⟨rfl,⟨nd,rfl⟩⟩;refine ⟨_,rfl,?_⟩)|(go_at_call 66;(with_reducible refine (fleuronref27_coord.calls a0_1 true _ A4.out).mono ?_);rintro e w' ⟨rfl,⟨nd,rfl⟩⟩)|(go_at_call 66;(with_reducible refine (fleuronref27_coord.calls a0_2 false _ A6.out).mono ?_);rintro e w' ⟨rfl,⟨nd,rfl⟩⟩))
    go_ret
    exact ⟨by first|rfl|(simp [errW_none,errW_some] <;> rfl)|(simp [*,errW_none,errW_some] <;> rfl),by repeat (first|(with_reducible first|exact HB.out|apply below_alloc|apply pw_below_drewN|apply below_drew1|refine below_set ?_ GE133.out)|exact HB.out)⟩
  ·replace c5:=Bool.eq_false_iff.mpr c5
   subst c5
   have H1:(some false)=some r:=by rw [if_neg (show ¬ (false=true) by decide)] at H;exact H
   clear H
   have H:=H1
   clear H1
   obtain rfl:=Option.some.inj H
   go_enter Tryz.func38,Tryz.ntmps38
   go_wp2_with (first|((with_reducible refine gate_dst (N:=1) rfl ?_);refine box_event ?hg (N:=1) ?hd (cs:=#[.int .i64 a0_0,.int .i64 a0_1,.int .i64 a0_2,.int .i64 a0_3]) (t:=50) ?hr ?_;(case hd=>rfl);(case hg=>rfl);(case hr=>first|(go_simp;done)|(go_simp;rfl));intro gb133 hg w13 hbox hb;have n0_:=aK (below_step (by repeat (first|(with_reducible first|exact HB.out|apply below_alloc|apply pw_below_drewN|apply below_drew1)|exact HB.out)) hb);have n1_:=aK (hbox);have n2_:=aK ((by rw [hg];exact (below_size (by repeat (first|(with_reducible first|exact HB.out|apply below_alloc|apply pw_below_drewN|apply below_drew1)|exact HB.out))):w.heap.size≤gb133));have n3_:=n2_;clear HB;have HB:=n0_;have BK133:=n1_;have GW133:=n2_;have GE133:=n3_;clear n0_ n1_ n2_ n3_;clear hb hbox hg;have hcz14_0:w13.cell? ⟨gb133,0,none⟩=some (.int .i64 a0_0):=(blk_cell BK133.out 0).trans rfl;have hcz14_1:w13.cell? ⟨gb133,1,none⟩=some (.int .i64 a0_1):=(blk_cell BK133.out 1).trans rfl;have hcz14_2:w13.cell? ⟨gb133,2,none⟩=some (.int .i64 a0_2):=(blk_cell BK133.out 2).trans rfl;have hcz14_3:w13.cell? ⟨gb133,3,none⟩=some (.int .i64 a0_3):=(blk_cell BK133.out 3).trans rfl;have hfz14_0:=blk_frozen BK133.out 0;have hfz14_1:=blk_frozen BK133.out 1;have hfz14_2:=blk_frozen BK133.out 2;have hfz14_3:=blk_frozen BK133.out 3)|((with_reducible refine gate_callee (f:=88) rfl ?_);refine goesL_ (some 5) rfl rfl Tryz.func88 (by kernel_rfl) rfl #[.int .i64 a0_0] rfl (by (try simp only [List.map_toArray,List.map_cons,List.map_nil]);first|done|rfl|(simp only [List.length_drop,List.length_take];rfl)) ?_;(with_reducible refine (fleuronref27_code.calls a0_0 true _ A2.out).mono ?_);rintro e w' ⟨rfl,⟨nd,rfl⟩⟩;refine ⟨_,rfl,?_⟩)|(go_at_call 66;(with_reducible refine (fleuronref27_coord.calls a0_1 false _ A4.out).mono ?_);rintro e w' ⟨rfl,⟨nd,rfl⟩⟩))
   go_ret
   exact ⟨by first|rfl|(simp [errW_none,errW_some] <;> rfl)|(simp [*,errW_none,errW_some] <;> rfl),by repeat (first|(with_reducible first|exact HB.out|apply below_alloc|apply pw_below_drewN|apply below_drew1|refine below_set ?_ GE133.out)|exact HB.out)⟩
 ·replace c3:=Bool.eq_false_iff.mpr c3
  subst c3
  have H1:(some false)=some r:=by rw [if_neg (show ¬ (false=true) by decide)] at H;exact H
  clear H
  have H:=H1
  clear H1
  obtain rfl:=Option.some.inj H
  go_enter Tryz.func38,Tryz.ntmps38
  go_wp2_with (first|((with_reducible refine gate_dst (N:=1) rfl ?_);refine box_event ?hg (N:=1) ?hd (cs:=#[.int .i64 a0_0,.int .i64 a0_1,.int .i64 a0_2,.int .i64 a0_3]) (t:=50) ?hr ?_;(case hd=>rfl);(case hg=>rfl);(case hr=>first|(go_simp;done)|(go_simp;rfl));intro gb133 hg w15 hbox hb;have n0_:=aK (below_step (by repeat (first|(with_reducible first|exact HB.out|apply below_alloc|apply pw_below_drewN|apply below_drew1)|exact HB.out)) hb);have n1_:=aK (hbox);have n2_:=aK ((by rw [hg];exact (below_size (by repeat (first|(with_reducible first|exact HB.out|apply below_alloc|apply pw_below_drewN|apply below_drew1)|exact HB.out))):w.heap.size≤gb133));have n3_:=n2_;clear HB;have HB:=n0_;have BK133:=n1_;have GW133:=n2_;have GE133:=n3_;clear n0_ n1_ n2_ n3_;clear hb hbox hg;have hcz16_0:w15.cell? ⟨gb133,0,none⟩=some (.int .i64 a0_0):=(blk_cell BK133.out 0).trans rfl;have hcz16_1:w15.cell? ⟨gb133,1,none⟩=some (.int .i64 a0_1):=(blk_cell BK133.out 1).trans rfl;have hcz16_2:w15.cell? ⟨gb133,2,none⟩=some (.int .i64 a0_2):=(blk_cell BK133.out 2).trans rfl;have hcz16_3:w15.cell? ⟨gb133,3,none⟩=some (.int .i64 a0_3):=(blk_cell BK133.out 3).trans rfl;have hfz16_0:=blk_frozen BK133.out 0;have hfz16_1:=blk_frozen BK133.out 1;have hfz16_2:=blk_frozen BK133.out 2;have hfz16_3:=blk_frozen BK133.out 3)|((with_reducible refine gate_callee (f:=88) rfl ?_);refine goesL_ (some 5) rfl rfl Tryz.func88 (by kernel_rfl) rfl #[.int .i64 a0_0] rfl (by (try simp only [List.map_toArray,List.map_cons,List.map_nil]);first|done|rfl|(simp only [List.length_drop,List.length_take];rfl)) ?_;(with_reducible refine (fleuronref27_code.calls a0_0 false _ A2.out).mono ?_);rintro e w' ⟨rfl,⟨nd,rfl⟩⟩;refine ⟨_,rfl,?_⟩))
  go_ret
  exact ⟨by first|rfl|(simp [errW_none,errW_some] <;> rfl)|(simp [*,errW_none,errW_some] <;> rfl),by repeat (first|(with_reducible first|exact HB.out|apply below_alloc|apply pw_below_drewN|apply below_drew1|refine below_set ?_ GE133.out)|exact HB.out)⟩
def fleuronref27_Size.f (a0:Int):Option (Bool):=if a0≥1 then (some (decide (a0≤268435455))) else (some false)
set_option maxHeartbeats 8000000 in
theorem fleuronref27_Size.calls (a0 : Int) (r : Bool) (w : World) (h : fleuronref27_Size.f a0 = some r) :
  Calls Tryz.prog 39 #[.int .i64 a0] w fun e w'=>e = .returned (.bool r)∧Drawn0 w w':=by
 have H:(if a0≥1 then (some (decide (a0≤268435455))) else (some false))=some r:=h
 clear h
 by_cases c2:a0≥1
 ·rw [if_pos c2] at H
  have c2b0:decide (1≤a0)=true:=decide_eq_true c2
  clear c2
  obtain rfl:=Option.some.inj H
  go_enter Tryz.func39,Tryz.ntmps39
  go_wp2
  go_ret
  exact ⟨by first|rfl|(simp;done)|(simp [*];done),by repeat (first|exact Drawn0.refl _|apply Drawn0.step)⟩
 ·rw [if_neg c2] at H
  have c2b0:decide (1≤a0)=false:=decide_eq_false c2
  clear c2
  obtain rfl:=Option.some.inj H
  go_enter Tryz.func39,Tryz.ntmps39
  go_wp2
  go_ret
  exact ⟨by first|rfl|(simp;done)|(simp [*];done),by repeat (first|exact Drawn0.refl _|apply Drawn0.step)⟩
def fleuronref27_rule.j0 : Nat → Bool → Int → Int → Int → Int → Option (Bool)
 | 0,_,_,_,_,_=>none
 | k+1,x22,x139000,x139001,x139002,x139003=>if x22=true then (some false) else (if x139002=0 then ((fleuronref27_coord.f x139003).bind fun t141=>(if t141=true then (some true) else (some false))) else ((fleuronref27_code.f x139003).bind fun t142=>(some t142)))
def fleuronref27_rule.f (k:Nat) (a0_0:Int) (a0_1:Int) (a0_2:Int) (a0_3:Int):Option (Bool):=if a0_2<0 then (fleuronref27_rule.j0 k true a0_0 a0_1 a0_2 a0_3) else (if a0_2>4 then (fleuronref27_rule.j0 k true a0_0 a0_1 a0_2 a0_3) else ((fleuronref27_code.f a0_0).bind fun t139=>(if t139=true then ((fleuronref27_code.f a0_1).bind fun t140=>(fleuronref27_rule.j0 k (!t140) a0_0 a0_1 a0_2 a0_3)) else (fleuronref27_rule.j0 k true a0_0 a0_1 a0_2 a0_3))))
theorem fleuronref27_rule.mono_l : ∀ k, (∀ y0 y1 y2 y3 y4, LeO (fleuronref27_rule.j0 k y0 y1 y2 y3 y4) (fleuronref27_rule.j0 (k + 1) y0 y1 y2 y3 y4))
 | 0=>fun _ _ _ _ _ r h=>by simp [fleuronref27_rule.j0] at h
 | k+1=>by
  have ih0:=fleuronref27_rule.mono_l k
  ·intro y0 y1 y2 y3 y4
   unfold fleuronref27_rule.j0
   repeat' first
   | (with_reducible exact ih0 _ _ _ _ _)
   | (with_reducible exact LeO.refl _)
   | (with_reducible exact LeO.none _)
   | (with_reducible refine LeO.ite ?_ ?_)
   | (with_reducible refine LeO.bind ?_ (fun _=>?_))
   | exact ih0 _ _ _ _ _
   | exact LeO.none _
   | refine LeO.ite ?_ ?_
   | refine LeO.bind ?_ (fun _=>?_)
theorem fleuronref27_rule.mono : ∀ a0 a1 a2 a3 k,LeO (fleuronref27_rule.f k a0 a1 a2 a3) (fleuronref27_rule.f (k+1) a0 a1 a2 a3):=by
 intro a0 a1 a2 a3 k
 have ih0:=fleuronref27_rule.mono_l k
 unfold fleuronref27_rule.f
 repeat' first
   | (with_reducible exact ih0 _ _ _ _ _)
   | (with_reducible exact LeO.refl _)
   | (with_reducible exact LeO.none _)
   | (with_reducible refine LeO.ite ?_ ?_)
   | (with_reducible refine LeO.bind ?_ (fun _=>?_))
   | exact ih0 _ _ _ _ _
   | exact LeO.none _
   | refine LeO.ite ?_ ?_
   | refine LeO.bind ?_ (fun _=>?_)
set_option maxHeartbeats 8000000 in
theorem fleuronref27_rule.calls (k : Nat) (a0_0 : Int) (a0_1 : Int) (a0_2 : Int) (a0_3 : Int) (r : Bool) (w : World) (h : fleuronref27_rule.f k a0_0 a0_1 a0_2 a0_3 = some r) :
  Calls Tryz.prog 56 #[.agg #[.int .i64 a0_0,.int .i64 a0_1,.int .i64 a0_2,.int .i64 a0_3]] w fun e w'=>e = .returned (.bool r)∧Below w.heap.size w w':=by
 have hu45:=Tryz.underlying45
 have HB:=aK (Below.refl w.heap.size w)
 have H:(if a0_2<0 then (fleuronref27_rule.j0 k true a0_0 a0_1 a0_2 a0_3) else (if a0_2>4 then (fleuronref27_rule.j0 k true a0_0 a0_1 a0_2 a0_3) else ((fleuronref27_code.f a0_0).bind fun t139=>(if t139=true then ((fleuronref27_code.f a0_1).bind fun t140=>(fleuronref27_rule.j0 k (!t140) a0_0 a0_1 a0_2 a0_3)) else (fleuronref27_rule.j0 k true a0_0 a0_1 a0_2 a0_3)))))=some r:=h
 clear h
 have HC2:=aK H
 clear H
 go_enter Tryz.func56,Tryz.ntmps56
 go_upto_region 1 with (first|((with_reducible refine gate_dst (N:=1) rfl ?_);refine box_event ?hg (N:=1) ?hd (cs:=#[.int .i64 a0_0,.int .i64 a0_1,.int .i64 a0_2,.int .i64 a0_3]) (t:=45) ?hr ?_;(case hd=>rfl);(case hg=>rfl);(case hr=>first|(go_simp;done)|(go_simp;rfl));intro gb138 hg w3 hbox hb;have n0_:=aK (below_step (by repeat (first|(with_reducible first|exact HB.out|apply below_alloc|apply pw_below_drewN|apply below_drew1)|exact HB.out)) hb);have n1_:=aK (hbox);have n2_:=aK ((by rw [hg];exact (below_size (by repeat (first|(with_reducible first|exact HB.out|apply below_alloc|apply pw_below_drewN|apply below_drew1)|exact HB.out))):w.heap.size≤gb138));have n3_:=n2_;clear HB;have HB:=n0_;have BK138:=n1_;have GW138:=n2_;have GE138:=n3_;clear n0_ n1_ n2_ n3_;clear hb hbox hg))
 (try simp only [Act.put,lS])
 go_cut [22] (fun v22 wc=>∃ (kq:Nat) (x22_1:Bool),v22 = .bool x22_1∧Aside0 (fleuronref27_rule.j0 kq x22_1 a0_0 a0_1 a0_2 a0_3=some r)∧Aside0 (kq≤k)∧Aside0 (wc.heap[gb138]?=some (.cells #[.int .i64 a0_0,.int .i64 a0_1,.int .i64 a0_2,.int .i64 a0_3] 45 (0,0)))∧Aside0 (Below w.heap.size w wc))
 case first =>
  have H:=HC2.out
  clear HC2
  by_cases c4:a0_2<0
  ·rw [if_pos c4] at H
   have c4b0:decide (a0_2<0)=true:=decide_eq_true c4
   clear c4
   (first|rw [c4b0]|(simp only [i64_w,i32_w];rw [c4b0])|skip)
   have H':=aK H
   clear H
   have hcz5_0:w3.cell? ⟨gb138,0,none⟩=some (.int .i64 a0_0):=(blk_cell BK138.out 0).trans rfl
   have hcz5_1:w3.cell? ⟨gb138,1,none⟩=some (.int .i64 a0_1):=(blk_cell BK138.out 1).trans rfl
   have hcz5_2:w3.cell? ⟨gb138,2,none⟩=some (.int .i64 a0_2):=(blk_cell BK138.out 2).trans rfl
   have hcz5_3:w3.cell? ⟨gb138,3,none⟩=some (.int .i64 a0_3):=(blk_cell BK138.out 3).trans rfl
   have hfz5_0:=blk_frozen BK138.out 0
   have hfz5_1:=blk_frozen BK138.out 1
   have hfz5_2:=blk_frozen BK138.out 2
   have hfz5_3:=blk_frozen BK138.out 3
   go_wp2
   go_meet
   case rel=>exact ⟨_,(true),(by first|rfl|(simp;done)|(simp [*];done)),H',⟨by first|omega|exact Nat.le_refl _⟩,⟨by (with_reducible repeat (first|refine blk_drewN ?_ _|refine blk_drew ?_|refine blk_alloc ?_ _));exact BK138.out⟩,⟨by repeat (first|(with_reducible first|exact HB.out|apply below_alloc|apply pw_below_drewN|apply below_drew1|refine below_set ?_ GE138.out)|exact HB.out)⟩⟩
  ·rw [if_neg c4] at H
   have c4b0:decide (a0_2<0)=false:=decide_eq_false c4
   clear c4
   (first|rw [c4b0]|(simp only [i64_w,i32_w];rw [c4b0])|skip)
   by_cases c6:a0_2>4
   ·rw [if_pos c6] at H
    have c6b0:decide (4<a0_2)=true:=decide_eq_true c6
    clear c6
    have H':=aK H
    clear H
    have hcz7_0:w3.cell? ⟨gb138,0,none⟩=some (.int .i64 a0_0):=(blk_cell BK138.out 0).trans rfl
    have hcz7_1:w3.cell? ⟨gb138,1,none⟩=some (.int .i64 a0_1):=(blk_cell BK138.out 1).trans rfl
    have hcz7_2:w3.cell? ⟨gb138,2,none⟩=some (.int .i64 a0_2):=(blk_cell BK138.out 2).trans rfl
    have hcz7_3:w3.cell? ⟨gb138,3,none⟩=some (.int .i64 a0_3):=(blk_cell BK138.out 3).trans rfl
    have hfz7_0:=blk_frozen BK138.out 0
    have hfz7_1:=blk_frozen BK138.out 1
    have hfz7_2:=blk_frozen BK138.out 2
    have hfz7_3:=blk_frozen BK138.out 3
    go_wp2
    go_meet
    case rel=>exact ⟨_,(true),(by first|rfl|(simp;done)|(simp [*];done)),H',⟨by first|omega|exact Nat.le_refl _⟩,⟨by (with_reducible repeat (first|refine blk_drewN ?_ _|refine blk_drew ?_|refine blk_alloc ?_ _));exact BK138.out⟩,⟨by repeat (first|(with_reducible first|exact HB.out|apply below_alloc|apply pw_below_drewN|apply below_drew1|refine below_set ?_ GE138.out)|exact HB.out)⟩⟩
   ·rw [if_neg c6] at H
    have c6b0:decide (4<a0_2)=false:=decide_eq_false c6
    clear c6
    replace H:=Option.bind_eq_some_iff.mp H
    obtain ⟨t139,A80,H⟩:=H
    replace H:(if t139=true then ((fleuronref27_code.f a0_1).bind fun t140=>(fleuronref27_rule.j0 k (!t140) a0_0 a0_1 a0_2 a0_3)) else (fleuronref27_rule.j0 k true a0_0 a0_1 a0_2 a0_3))=some r:=H
    have A8:=aK A80
    clear A80
    by_cases c9:t139=true
    ·subst c9
     have H1:((fleuronref27_code.f a0_1).bind fun t140=>(fleuronref27_rule.j0 k (!t140) a0_0 a0_1 a0_2 a0_3))=some r:=by rw [if_pos rfl] at H;exact H
     clear H
     have H:=H1
     clear H1
     replace H:=Option.bind_eq_some_iff.mp H
     obtain ⟨t140,A100,H⟩:=H
     replace H:(fleuronref27_rule.j0 k (!t140) a0_0 a0_1 a0_2 a0_3)=some r:=H
     have A10:=aK A100
     clear A100
     have H':=aK H
     clear H
     have hcz11_0:w3.cell? ⟨gb138,0,none⟩=some (.int .i64 a0_0):=(blk_cell BK138.out 0).trans rfl
     have hcz11_1:w3.cell? ⟨gb138,1,none⟩=some (.int .i64 a0_1):=(blk_cell BK138.out 1).trans rfl
     have hcz11_2:w3.cell? ⟨gb138,2,none⟩=some (.int .i64 a0_2):=(blk_cell BK138.out 2).trans rfl
     have hcz11_3:w3.cell? ⟨gb138,3,none⟩=some (.int .i64 a0_3):=(blk_cell BK138.out 3).trans rfl
     have hfz11_0:=blk_frozen BK138.out 0
     have hfz11_1:=blk_frozen BK138.out 1
     have hfz11_2:=blk_frozen BK138.out 2
     have hfz11_3:=blk_frozen BK138.out 3
     go_wp2_with (first|(go_at_call 88;(with_reducible refine (fleuronref27_code.calls a0_0 true _ A8.out).mono ?_);rintro e w' ⟨rfl,⟨nd,rfl⟩⟩)|(go_at_call 88;(with_reducible refine (fleuronref27_code.calls a0_1 t140 _ A10.out).mono ?_);rintro e w' ⟨rfl,⟨nd,rfl⟩⟩))
     go_meet
     case rel=>exact ⟨_,(!t140),(by first|rfl|(simp;done)|(simp [*];done)),H',⟨by first|omega|exact Nat.le_refl _⟩,⟨by (with_reducible repeat (first|refine blk_drewN ?_ _|refine blk_drew ?_|refine blk_alloc ?_ _));exact BK138.out⟩,⟨by repeat (first|(with_reducible first|exact HB.out|apply below_alloc|apply pw_below_drewN|apply below_drew1|refine below_set ?_ GE138.out)|exact HB.out)⟩⟩
    ·replace c9:=Bool.eq_false_iff.mpr c9
     subst c9
     have H1:(fleuronref27_rule.j0 k true a0_0 a0_1 a0_2 a0_3)=some r:=by rw [if_neg (show ¬ (false=true) by decide)] at H;exact H
     clear H
     have H:=H1
     clear H1
     have H':=aK H
     clear H
     have hcz12_0:w3.cell? ⟨gb138,0,none⟩=some (.int .i64 a0_0):=(blk_cell BK138.out 0).trans rfl
     have hcz12_1:w3.cell? ⟨gb138,1,none⟩=some (.int .i64 a0_1):=(blk_cell BK138.out 1).trans rfl
     have hcz12_2:w3.cell? ⟨gb138,2,none⟩=some (.int .i64 a0_2):=(blk_cell BK138.out 2).trans rfl
     have hcz12_3:w3.cell? ⟨gb138,3,none⟩=some (.int .i64 a0_3):=(blk_cell BK138.out 3).trans rfl
     have hfz12_0:=blk_frozen BK138.out 0
     have hfz12_1:=blk_frozen BK138.out 1
     have hfz12_2:=blk_frozen BK138.out 2
     have hfz12_3:=blk_frozen BK138.out 3
     go_wp2_with (first|(go_at_call 88;(with_reducible refine (fleuronref27_code.calls a0_0 false _ A8.out).mono ?_);rintro e w' ⟨rfl,⟨nd,rfl⟩⟩))
     go_meet
     case rel=>exact ⟨_,(true),(by first|rfl|(simp;done)|(simp [*];done)),H',⟨by first|omega|exact Nat.le_refl _⟩,⟨by (with_reducible repeat (first|refine blk_drewN ?_ _|refine blk_drew ?_|refine blk_alloc ?_ _));exact BK138.out⟩,⟨by repeat (first|(with_reducible first|exact HB.out|apply below_alloc|apply pw_below_drewN|apply below_drew1|refine below_set ?_ GE138.out)|exact HB.out)⟩⟩
 case rest =>
  clear HC2
  try clear p2
  try clear c4
  try clear c4b0
  try clear c5
  try clear c6
  try clear c6b0
  try clear c9
  try clear hcz11_0
  try clear hcz11_1
  try clear hcz11_2
  try clear hcz11_3
  try clear hcz12_0
  try clear hcz12_1
  try clear hcz12_2
  try clear hcz12_3
  try clear hcz5_0
  try clear hcz5_1
  try clear hcz5_2
  try clear hcz5_3
  try clear hcz7_0
  try clear hcz7_1
  try clear hcz7_2
  try clear hcz7_3
  try clear hfz11_0
  try clear hfz11_1
  try clear hfz11_2
  try clear hfz11_3
  try clear hfz12_0
  try clear hfz12_1
  try clear hfz12_2
  try clear hfz12_3
  try clear hfz5_0
  try clear hfz5_1
  try clear hfz5_2
  try clear hfz5_3
  try clear hfz7_0
  try clear hfz7_1
  try clear hfz7_2
  try clear hfz7_3
  obtain ⟨kq,x22_1,rfl,HA,HJ1,BK138,HB⟩:=hcut
  cases kq with
  | zero=>exact absurd HA.out (by simp [fleuronref27_rule.j0])
  | succ kj1 =>
   have H:=HA.out
   clear HA
   simp only [fleuronref27_rule.j0] at H
   by_cases c13:x22_1=true
   ·subst c13
    have H1:(some false)=some r:=by rw [if_pos rfl] at H;exact H
    clear H
    have H:=H1
    clear H1
    obtain rfl:=Option.some.inj H
    go_wp2
    go_ret
    exact ⟨by first|rfl|(simp [errW_none,errW_some] <;> rfl)|(simp [*,errW_none,errW_some] <;> rfl),by repeat (first|(with_reducible first|exact HB.out|apply below_alloc|apply pw_below_drewN|apply below_drew1|refine below_set ?_ GE138.out)|exact HB.out)⟩
   ·replace c13:=Bool.eq_false_iff.mpr c13
    subst c13
    have H1:(if a0_2=0 then ((fleuronref27_coord.f a0_3).bind fun t141=>(if t141=true then (some true) else (some false))) else ((fleuronref27_code.f a0_3).bind fun t142=>(some t142)))=some r:=by rw [if_neg (show ¬ (false=true) by decide)] at H;exact H
    clear H
    have H:=H1
    clear H1
    by_cases c14:a0_2=0
    ·rw [if_pos c14] at H
     have c14b0:(a0_2 == 0)=true:=beq_iff_eq.mpr c14
     have c14b1:(a0_2 != 0)=false:=bne_eq_false_iff_eq.mpr c14
     clear c14
     replace H:=Option.bind_eq_some_iff.mp H
     obtain ⟨t141,A150,H⟩:=H
     replace H:(if t141=true then (some true) else (some false))=some r:=H
     have A15:=aK A150
     clear A150
     by_cases c16:t141=true
     ·subst c16
      have H1:(some true)=some r:=by rw [if_pos rfl] at H;exact H
      clear H
      have H:=H1
      clear H1
      obtain rfl:=Option.some.inj H
      have hcz17_0:wc.cell? ⟨gb138,0,none⟩=some (.int .i64 a0_0):=(blk_cell BK138.out 0).trans rfl
      have hcz17_1:wc.cell? ⟨gb138,1,none⟩=some (.int .i64 a0_1):=(blk_cell BK138.out 1).trans rfl
      have hcz17_2:wc.cell? ⟨gb138,2,none⟩=some (.int .i64 a0_2):=(blk_cell BK138.out 2).trans rfl
      have hcz17_3:wc.cell? ⟨gb138,3,none⟩=some (.int .i64 a0_3):=(blk_cell BK138.out 3).trans rfl
      have hfz17_0:=blk_frozen BK138.out 0
      have hfz17_1:=blk_frozen BK138.out 1
      have hfz17_2:=blk_frozen BK138.out 2
      have hfz17_3:=blk_frozen BK138.out 3
      go_wp2_with (first|(go_at_call 66;(with_reducible refine (fleuronref27_coord.calls a0_3 true _ A15.out).mono ?_);rintro e w' ⟨rfl,⟨nd,rfl⟩⟩))
      go_ret
      exact ⟨by first|rfl|(simp [errW_none,errW_some] <;> rfl)|(simp [*,errW_none,errW_some] <;> rfl),by repeat (first|(with_reducible first|exact HB.out|apply below_alloc|apply pw_below_drewN|apply below_drew1|refine below_set ?_ GE138.out)|exact HB.out)⟩
     ·replace c16:=Bool.eq_false_iff.mpr c16
      subst c16
      have H1:(some false)=some r:=by rw [if_neg (show ¬ (false=true) by decide)] at H;exact H
      clear H
      have H:=H1
      clear H1
      obtain rfl:=Option.some.inj H
      have hcz18_0:wc.cell? ⟨gb138,0,none⟩=some (.int .i64 a0_0):=(blk_cell BK138.out 0).trans rfl
      have hcz18_1:wc.cell? ⟨gb138,1,none⟩=some (.int .i64 a0_1):=(blk_cell BK138.out 1).trans rfl
      have hcz18_2:wc.cell? ⟨gb138,2,none⟩=some (.int .i64 a0_2):=(blk_cell BK138.out 2).trans rfl
      have hcz18_3:wc.cell? ⟨gb138,3,none⟩=some (.int .i64 a0_3):=(blk_cell BK138.out 3).trans rfl
      have hfz18_0:=blk_frozen BK138.out 0
      have hfz18_1:=blk_frozen BK138.out 1
      have hfz18_2:=blk_frozen BK138.out 2
      have hfz18_3:=blk_frozen BK138.out 3
      go_wp2_with (first|(go_at_call 66;(with_reducible refine (fleuronref27_coord.calls a0_3 false _ A15.out).mono ?_);rintro e w' ⟨rfl,⟨nd,rfl⟩⟩))
      go_ret
      exact ⟨by first|rfl|(simp [errW_none,errW_some] <;> rfl)|(simp [*,errW_none,errW_some] <;> rfl),by repeat (first|(with_reducible first|exact HB.out|apply below_alloc|apply pw_below_drewN|apply below_drew1|refine below_set ?_ GE138.out)|exact HB.out)⟩
    ·rw [if_neg c14] at H
     have c14b0:(a0_2 == 0)=false:=beq_eq_false_iff_ne.mpr c14
     have c14b1:(a0_2 != 0)=true:=bne_iff_ne.mpr c14
     replace H:=Option.bind_eq_some_iff.mp H
     obtain ⟨t142,A190,H⟩:=H
     replace H:(some t142)=some r:=H
     have A19:=aK A190
     clear A190
     obtain rfl:=Option.some.inj H
     have hcz20_0:wc.cell? ⟨gb138,0,none⟩=some (.int .i64 a0_0):=(blk_cell BK138.out 0).trans rfl
     have hcz20_1:wc.cell? ⟨gb138,1,none⟩=some (.int .i64 a0_1):=(blk_cell BK138.out 1).trans rfl
     have hcz20_2:wc.cell? ⟨gb138,2,none⟩=some (.int .i64 a0_2):=(blk_cell BK138.out 2).trans rfl
     have hcz20_3:wc.cell? ⟨gb138,3,none⟩=some (.int .i64 a0_3):=(blk_cell BK138.out 3).trans rfl
     have hfz20_0:=blk_frozen BK138.out 0
     have hfz20_1:=blk_frozen BK138.out 1
     have hfz20_2:=blk_frozen BK138.out 2
     have hfz20_3:=blk_frozen BK138.out 3
     go_wp2_with (first|(go_at_call 88;(with_reducible refine (fleuronref27_code.calls a0_3 t142 _ A19.out).mono ?_);rintro e w' ⟨rfl,⟨nd,rfl⟩⟩))
     go_ret
     exact ⟨by first|rfl|(simp [errW_none,errW_some] <;> rfl)|(simp [*,errW_none,errW_some] <;> rfl),by repeat (first|(with_reducible first|exact HB.out|apply below_alloc|apply pw_below_drewN|apply below_drew1|refine below_set ?_ GE138.out)|exact HB.out)⟩
def fleuronref27_pair.f (a0_0:Int) (a0_1:Int) (a0_2:Int) (a0_3:Int):Option (Int):=some (wrap64 ((wrap64 (256*a0_0))+a0_1))
set_option maxHeartbeats 8000000 in
theorem fleuronref27_pair.calls (a0_0 : Int) (a0_1 : Int) (a0_2 : Int) (a0_3 : Int) (r : Int) (w : World) (h : fleuronref27_pair.f a0_0 a0_1 a0_2 a0_3 = some r) :
  Calls Tryz.prog 57 #[.agg #[.int .i64 a0_0,.int .i64 a0_1,.int .i64 a0_2,.int .i64 a0_3]] w fun e w'=>e = .returned (.int .i64 r)∧Below w.heap.size w w':=by
 have hu45:=Tryz.underlying45
 have HB:=aK (Below.refl w.heap.size w)
 have H:(some (wrap64 ((wrap64 (256*a0_0))+a0_1)))=some r:=h
 clear h
 obtain rfl:=Option.some.inj H
 go_enter Tryz.func57,Tryz.ntmps57
 go_wp2_with (first|((with_reducible refine gate_dst (N:=1) rfl ?_);refine box_event ?hg (N:=1) ?hd (cs:=#[.int .i64 a0_0,.int .i64 a0_1,.int .i64 a0_2,.int .i64 a0_3]) (t:=45) ?hr ?_;(case hd=>rfl);(case hg=>rfl);(case hr=>first|(go_simp;done)|(go_simp;rfl));intro gb143 hg w2 hbox hb;have n0_:=aK (below_step (by repeat (first|(with_reducible first|exact HB.out|apply below_alloc|apply pw_below_drewN|apply below_drew1)|exact HB.out)) hb);have n1_:=aK (hbox);have n2_:=aK ((by rw [hg];exact (below_size (by repeat (first|(with_reducible first|exact HB.out|apply below_alloc|apply pw_below_drewN|apply below_drew1)|exact HB.out))):w.heap.size≤gb143));have n3_:=n2_;clear HB;have HB:=n0_;have BK143:=n1_;have GW143:=n2_;have GE143:=n3_;clear n0_ n1_ n2_ n3_;clear hb hbox hg;have hcz3_0:w2.cell? ⟨gb143,0,none⟩=some (.int .i64 a0_0):=(blk_cell BK143.out 0).trans rfl;have hcz3_1:w2.cell? ⟨gb143,1,none⟩=some (.int .i64 a0_1):=(blk_cell BK143.out 1).trans rfl;have hcz3_2:w2.cell? ⟨gb143,2,none⟩=some (.int .i64 a0_2):=(blk_cell BK143.out 2).trans rfl;have hcz3_3:w2.cell? ⟨gb143,3,none⟩=some (.int .i64 a0_3):=(blk_cell BK143.out 3).trans rfl;have hfz3_0:=blk_frozen BK143.out 0;have hfz3_1:=blk_frozen BK143.out 1;have hfz3_2:=blk_frozen BK143.out 2;have hfz3_3:=blk_frozen BK143.out 3))
 go_ret
 exact ⟨by first|rfl|(simp [errW_none,errW_some] <;> rfl)|(simp [*,errW_none,errW_some] <;> rfl),by repeat (first|(with_reducible first|exact HB.out|apply below_alloc|apply pw_below_drewN|apply below_drew1|refine below_set ?_ GE143.out)|exact HB.out)⟩
end Go.Proofs.YtoemkemmiikhlaaGreat.PF2
