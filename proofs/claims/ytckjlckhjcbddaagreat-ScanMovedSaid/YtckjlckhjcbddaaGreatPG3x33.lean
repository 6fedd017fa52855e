/- What functions of the program come to,each with the proof that the machine's call does just that;written by a program of this session out of the translation. -/
import Derived.Test.YtckjlckhjcbddaaGreatPG3x0
namespace Go.Proofs.YtckjlckhjcbddaaGreat.PG3
open Go.RowKit Go.Proofs.YtckjlckhjcbddaaGreatW.PrintWords Go.Proofs.YtckjlckhjcbddaaGreatW.PrintLast Go.Proofs.YtckjlckhjcbddaaGreatW.PrintMore
attribute [local go_sem] max2_int min2_int max_two min_two max_three min_three max_four min_four   -- for this text's walks alone
set_option linter.unusedVariables false
set_option linter.unusedSimpArgs false

/-! ### fleuronref19_Right: function 54 -/
def fleuronref19_Right.l0:Nat→Int→Int→List (S23)→Int→Int→Option (Bool)
  | 0,_,_,_,_,_=>none
  | k+1,x1,x5,x8,x9,x10=>if x10<x9 then (if 0≤x10 then (if x10<(x8.length:Int) then (if ((rd_T23 x8 x10).f0)≤x5 then (some false) else (if ((rd_T23 x8 x10).f0)<0 then (some false) else (if ((rd_T23 x8 x10).f0)≥((rd_T23 x8 x10).f1) then (some false) else (if ((rd_T23 x8 x10).f1)>x1 then (some false) else (fleuronref19_Right.l0 k x1 ((rd_T23 x8 x10).f1) x8 x9 (wrap64 (x10+1))))))) else (none)) else (none)) else (some true)
def fleuronref19_Right.f (k:Nat) (l0:List (S23)) (a1:Int):Option (Bool):=fleuronref19_Right.l0 k a1 (-1) l0 (l0.length:Int) 0
theorem fleuronref19_Right.mono_l : ∀ k,(∀ y0 y1 y2 y3 y4,LeO (fleuronref19_Right.l0 k y0 y1 y2 y3 y4) (fleuronref19_Right.l0 (k+1) y0 y1 y2 y3 y4))
  | 0=>fun _ _ _ _ _ r h=>by simp [fleuronref19_Right.l0] at h
  | k+1=>by
    have ih0:=fleuronref19_Right.mono_l k
    · intro y0 y1 y2 y3 y4
      unfold fleuronref19_Right.l0
      repeat' first
      | (with_reducible exact ih0 _ _ _ _ _)
      | (with_reducible exact LeO.refl _)
      | (with_reducible exact LeO.none _)
      | (with_reducible refine LeO.ite ?_ ?_)
      | (with_reducible refine LeO.bind ?_ (fun _=>?_))
      | exact ih0 _ _ _ _ _
      | exact LeO.none _
      | refine LeO.ite ?_ ?_
      | refine LeO.bind ?_ (fun _=>?_)
theorem fleuronref19_Right.mono : ∀ a0 a1 k,LeO (fleuronref19_Right.f k a0 a1) (fleuronref19_Right.f (k+1) a0 a1):=by
  intro a0 a1 k
  have ih0:=fleuronref19_Right.mono_l k
  unfold fleuronref19_Right.f
  repeat' first
      | (with_reducible exact ih0 _ _ _ _ _)
      | (with_reducible exact LeO.refl _)
      | (with_reducible exact LeO.none _)
      | (with_reducible refine LeO.ite ?_ ?_)
      | (with_reducible refine LeO.bind ?_ (fun _=>?_))
      | exact ih0 _ _ _ _ _
      | exact LeO.none _
      | refine LeO.ite ?_ ?_
      | refine LeO.bind ?_ (fun _=>?_)
set_option maxHeartbeats 8000000 in
set_option maxRecDepth 100000 in
theorem fleuronref19_Right.calls (k:Nat) (A0:Option Addr) (c0:Nat) (l0:List (S23)) (a1:Int) (r:Bool) (w:World) (hr0:Kd.C k23 w A0 l0.length l0) (hc0:l0.length≤c0) (h:fleuronref19_Right.f k l0 a1=some r) :
    Calls Tryz.prog 54 #[.slice A0 l0.length c0,.int .i64 a1] w fun e w'=>e = .returned (.bool r)∧Below w.heap.size w w':=by
  have hu23:=Tryz.underlying23
  have HR0:=aK hr0
  have HC0:=aK hc0
  clear hr0 hc0
  have HB:=aK (Below.refl w.heap.size w)
  have H:(fleuronref19_Right.l0 k a1 (-1) l0 (l0.length:Int) 0)=some r:=h
  clear h
  have H':=aK H
  clear H
  go_enter Tryz.func54,Tryz.ntmps54
  go_wp2
  go_loopg [5,10] k (fun kq v5 v10 w'=>∃ (x5_1:Int) (x10_1:Int),v5 = .int .i64 x5_1∧v10 = .int .i64 x10_1∧Aside0 (fleuronref19_Right.l0 kq a1 x5_1 l0 (l0.length:Int) x10_1=some r)∧Aside0 (kq≤k)∧Aside0 (Below w.heap.size w w'))
  case atStart=>exact ⟨((-1)),(0),(by first|rfl|(simp;done)|(simp [*];done)),(by first|rfl|(simp;done)|(simp [*];done)),H',⟨Nat.le_refl _⟩,⟨by repeat (first|(with_reducible first|exact HB.out|apply below_alloc|apply pw_below_drewN|apply below_drew1)|exact HB.out)⟩⟩
  case round =>
    clear H'
    try clear p2
    obtain ⟨x5_1,x10_1,rfl,rfl,HA,HK1,HB⟩:=hrel
    cases gk with
    | zero=>exact absurd HA.out (by simp [fleuronref19_Right.l0])
    | succ k1 =>
      have H:=HA.out
      clear HA
      simp only [fleuronref19_Right.l0] at H
      by_cases c3:x10_1<(l0.length:Int)
      · rw [if_pos c3] at H
        have c3b0:decide (x10_1<(l0.length:Int))=true:=decide_eq_true c3
        clear c3
        by_cases c4:0≤x10_1
        · rw [if_pos c4] at H
          have c4b0:decide (0≤x10_1)=true:=decide_eq_true c4
          clear c4
          by_cases c5:x10_1<(l0.length:Int)
          · rw [if_pos c5] at H
            have c5b0:decide (x10_1<(l0.length:Int))=true:=decide_eq_true c5
            clear c5
            by_cases c6:((rd_T23 l0 x10_1).f0)≤x5_1
            · rw [if_pos c6] at H
              have c6b0:decide (((rd_T23 l0 x10_1).f0)≤x5_1)=true:=decide_eq_true c6
              clear c6
              obtain rfl:=Option.some.inj H
              have p312:0≤(x10_1:Int):=of_decide_eq_true (by first|(with_reducible assumption)|assumption)
              have q312:x10_1<(l0.length:Int):=of_decide_eq_true (by first|(with_reducible assumption)|assumption)
              obtain ⟨ad312,e312,hx312_0,hx312_1⟩:=at_T23 HR0.out x10_1 p312 q312
              cases e312
              replace hx312_0:=(HB.out.cell (World.block_lt_of_cell? w _ hx312_0)).trans hx312_0
              replace hx312_1:=(HB.out.cell (World.block_lt_of_cell? w _ hx312_1)).trans hx312_1
              replace p312:=eq_true p312
              replace q312:=eq_true q312
              go_wp2_with (first|((with_reducible refine gate_dst (N:=7) rfl ?_);refine box_event ?hg (N:=7) ?hd (cs:=#[.int .i64 0,.int .i64 0]) (t:=23) ?hr ?_;(case hd=>rfl);(case hg=>rfl);(case hr=>first|(go_simp;done)|(go_simp;rfl));intro gb313 hg w7 hbox hb;have n0_:=aK (below_step (by repeat (first|(with_reducible first|exact HB.out|apply below_alloc|apply pw_below_drewN|apply below_drew1)|exact HB.out)) hb);have n1_:=aK (hbox);have n2_:=aK ((by rw [hg];exact (below_size (by repeat (first|(with_reducible first|exact HB.out|apply below_alloc|apply pw_below_drewN|apply below_drew1)|exact HB.out))):w.heap.size≤gb313));have n3_:=aK ((by rw [hg];exact (below_size (by repeat (first|(with_reducible first|exact HB.out|apply below_alloc|apply pw_below_drewN|apply below_drew1)|exact HB.out))):w.heap.size≤gb313));clear HB;have HB:=n0_;have BK313:=n1_;have GW313:=n2_;have GE313:=n3_;clear n0_ n1_ n2_ n3_;clear hb hbox hg;have hcz8_0:w7.cell? ⟨gb313,0,none⟩=some (.int .i64 0):=(blk_cell BK313.out 0).trans rfl;have hcz8_1:w7.cell? ⟨gb313,1,none⟩=some (.int .i64 0):=(blk_cell BK313.out 1).trans rfl;have hfz8_0:=blk_frozen BK313.out 0;have hfz8_1:=blk_frozen BK313.out 1))
              go_ret
              exact ⟨by first|rfl|(simp [errW_none,errW_some] <;> rfl)|(simp [*,errW_none,errW_some] <;> rfl),by repeat (first|(with_reducible first|exact HB.out|apply below_alloc|apply pw_below_drewN|apply below_drew1|refine below_set ?_ GE313.out)|exact HB.out)⟩
            · rw [if_neg c6] at H
              have c6b0:decide (((rd_T23 l0 x10_1).f0)≤x5_1)=false:=decide_eq_false c6
              clear c6
              by_cases c9:((rd_T23 l0 x10_1).f0)<0
              · rw [if_pos c9] at H
                have c9b0:decide (((rd_T23 l0 x10_1).f0)<0)=true:=decide_eq_true c9
                clear c9
                obtain rfl:=Option.some.inj H
                have p312:0≤(x10_1:Int):=of_decide_eq_true (by first|(with_reducible assumption)|assumption)
                have q312:x10_1<(l0.length:Int):=of_decide_eq_true (by first|(with_reducible assumption)|assumption)
                obtain ⟨ad312,e312,hx312_0,hx312_1⟩:=at_T23 HR0.out x10_1 p312 q312
                cases e312
                replace hx312_0:=(HB.out.cell (World.block_lt_of_cell? w _ hx312_0)).trans hx312_0
                replace hx312_1:=(HB.out.cell (World.block_lt_of_cell? w _ hx312_1)).trans hx312_1
                replace p312:=eq_true p312
                replace q312:=eq_true q312
                go_wp2_with (first|((with_reducible refine gate_dst (N:=7) rfl ?_);refine box_event ?hg (N:=7) ?hd (cs:=#[.int .i64 0,.int .i64 0]) (t:=23) ?hr ?_;(case hd=>rfl);(case hg=>rfl);(case hr=>first|(go_simp;done)|(go_simp;rfl));intro gb313 hg w10 hbox hb;have n0_:=aK (below_step (by repeat (first|(with_reducible first|exact HB.out|apply below_alloc|apply pw_below_drewN|apply below_drew1)|exact HB.out)) hb);have n1_:=aK (hbox);have n2_:=aK ((by rw [hg];exact (below_size (by repeat (first|(with_reducible first|exact HB.out|apply below_alloc|apply pw_below_drewN|apply below_drew1)|exact HB.out))):w.heap.size≤gb313));have n3_:=aK ((by rw [hg];exact (below_size (by repeat (first|(with_reducible first|exact HB.out|apply below_alloc|apply pw_below_drewN|apply below_drew1)|exact HB.out))):w.heap.size≤gb313));clear HB;have HB:=n0_;have BK313:=n1_;have GW313:=n2_;have GE313:=n3_;clear n0_ n1_ n2_ n3_;clear hb hbox hg;have hcz11_0:w10.cell? ⟨gb313,0,none⟩=some (.int .i64 0):=(blk_cell BK313.out 0).trans rfl;have hcz11_1:w10.cell? ⟨gb313,1,none⟩=some (.int .i64 0):=(blk_cell BK313.out 1).trans rfl;have hfz11_0:=blk_frozen BK313.out 0;have hfz11_1:=blk_frozen BK313.out 1))
                go_ret
                exact ⟨by first|rfl|(simp [errW_none,errW_some] <;> rfl)|(simp [*,errW_none,errW_some] <;> rfl),by repeat (first|(with_reducible first|exact HB.out|apply below_alloc|apply pw_below_drewN|apply below_drew1|refine below_set ?_ GE313.out)|exact HB.out)⟩
              · rw [if_neg c9] at H
                have c9b0:decide (((rd_T23 l0 x10_1).f0)<0)=false:=decide_eq_false c9
                clear c9
                by_cases c12:((rd_T23 l0 x10_1).f0)≥((rd_T23 l0 x10_1).f1)
                · rw [if_pos c12] at H
                  have c12b0:decide (((rd_T23 l0 x10_1).f1)≤((rd_T23 l0 x10_1).f0))=true:=decide_eq_true c12
                  clear c12
                  obtain rfl:=Option.some.inj H
                  have p312:0≤(x10_1:Int):=of_decide_eq_true (by first|(with_reducible assumption)|assumption)
                  have q312:x10_1<(l0.length:Int):=of_decide_eq_true (by first|(with_reducible assumption)|assumption)
                  obtain ⟨ad312,e312,hx312_0,hx312_1⟩:=at_T23 HR0.out x10_1 p312 q312
                  cases e312
                  replace hx312_0:=(HB.out.cell (World.block_lt_of_cell? w _ hx312_0)).trans hx312_0
                  replace hx312_1:=(HB.out.cell (World.block_lt_of_cell? w _ hx312_1)).trans hx312_1
                  replace p312:=eq_true p312
                  replace q312:=eq_true q312
                  go_wp2_with (first|((with_reducible refine gate_dst (N:=7) rfl ?_);refine box_event ?hg (N:=7) ?hd (cs:=#[.int .i64 0,.int .i64 0]) (t:=23) ?hr ?_;(case hd=>rfl);(case hg=>rfl);(case hr=>first|(go_simp;done)|(go_simp;rfl));intro gb313 hg w13 hbox hb;have n0_:=aK (below_step (by repeat (first|(with_reducible first|exact HB.out|apply below_alloc|apply pw_below_drewN|apply below_drew1)|exact HB.out)) hb);have n1_:=aK (hbox);have n2_:=aK ((by rw [hg];exact (below_size (by repeat (first|(with_reducible first|exact HB.out|apply below_alloc|apply pw_below_drewN|apply below_drew1)|exact HB.out))):w.heap.size≤gb313));have n3_:=aK ((by rw [hg];exact (below_size (by repeat (first|(with_reducible first|exact HB.out|apply below_alloc|apply pw_below_drewN|apply below_drew1)|exact HB.out))):w.heap.size≤gb313));clear HB;have HB:=n0_;have BK313:=n1_;have GW313:=n2_;have GE313:=n3_;clear n0_ n1_ n2_ n3_;clear hb hbox hg;have hcz14_0:w13.cell? ⟨gb313,0,none⟩=some (.int .i64 0):=(blk_cell BK313.out 0).trans rfl;have hcz14_1:w13.cell? ⟨gb313,1,none⟩=some (.int .i64 0):=(blk_cell BK313.out 1).trans rfl;have hfz14_0:=blk_frozen BK313.out 0;have hfz14_1:=blk_frozen BK313.out 1))
                  go_ret
                  exact ⟨by first|rfl|(simp [errW_none,errW_some] <;> rfl)|(simp [*,errW_none,errW_some] <;> rfl),by repeat (first|(with_reducible first|exact HB.out|apply below_alloc|apply pw_below_drewN|apply below_drew1|refine below_set ?_ GE313.out)|exact HB.out)⟩
                · rw [if_neg c12] at H
                  have c12b0:decide (((rd_T23 l0 x10_1).f1)≤((rd_T23 l0 x10_1).f0))=false:=decide_eq_false c12
                  clear c12
                  by_cases c15:((rd_T23 l0 x10_1).f1)>a1
                  · rw [if_pos c15] at H
                    have c15b0:decide (a1<((rd_T23 l0 x10_1).f1))=true:=decide_eq_true c15
                    clear c15
                    obtain rfl:=Option.some.inj H
                    have p312:0≤(x10_1:Int):=of_decide_eq_true (by first|(with_reducible assumption)|assumption)
                    have q312:x10_1<(l0.length:Int):=of_decide_eq_true (by first|(with_reducible assumption)|assumption)
                    obtain ⟨ad312,e312,hx312_0,hx312_1⟩:=at_T23 HR0.out x10_1 p312 q312
                    cases e312
                    replace hx312_0:=(HB.out.cell (World.block_lt_of_cell? w _ hx312_0)).trans hx312_0
                    replace hx312_1:=(HB.out.cell (World.block_lt_of_cell? w _ hx312_1)).trans hx312_1
                    replace p312:=eq_true p312
                    replace q312:=eq_true q312
                    go_wp2_with (first|((with_reducible refine gate_dst (N:=7) rfl ?_);refine box_event ?hg (N:=7) ?hd (cs:=#[.int .i64 0,.int .i64 0]) (t:=23) ?hr ?_;(case hd=>rfl);(case hg=>rfl);(case hr=>first|(go_simp;done)|(go_simp;rfl));intro gb313 hg w16 hbox hb;have n0_:=aK (below_step (by repeat (first|(with_reducible first|exact HB.out|apply below_alloc|apply pw_below_drewN|apply below_drew1)|exact HB.out)) hb);have n1_:=aK (hbox);have n2_:=aK ((by rw [hg];exact (below_size (by repeat (first|(with_reducible first|exact HB.out|apply below_alloc|apply pw_below_drewN|apply below_drew1)|exact HB.out))):w.heap.size≤gb313));have n3_:=aK ((by rw [hg];exact (below_size (by repeat (first|(with_reducible first|exact HB.out|apply below_alloc|apply pw_below_drewN|apply below_drew1)|exact HB.out))):w.heap.size≤gb313));clear HB;have HB:=n0_;have BK313:=n1_;have GW313:=n2_;have GE313:=n3_;clear n0_ n1_ n2_ n3_;clear hb hbox hg;have hcz17_0:w16.cell? ⟨gb313,0,none⟩=some (.int .i64 0):=(blk_cell BK313.out 0).trans rfl;have hcz17_1:w16.cell? ⟨gb313,1,none⟩=some (.int .i64 0):=(blk_cell BK313.out 1).trans rfl;have hfz17_0:=blk_frozen BK313.out 0;have hfz17_1:=blk_frozen BK313.out 1))
                    go_ret
                    exact ⟨by first|rfl|(simp [errW_none,errW_some] <;> rfl)|(simp [*,errW_none,errW_some] <;> rfl),by repeat (first|(with_reducible first|exact HB.out|apply below_alloc|apply pw_below_drewN|apply below_drew1|refine below_set ?_ GE313.out)|exact HB.out)⟩
                  · rw [if_neg c15] at H
                    have c15b0:decide (a1<((rd_T23 l0 x10_1).f1))=false:=decide_eq_false c15
                    clear c15
                    have H':=aK H
                    clear H
                    have p312:0≤(x10_1:Int):=of_decide_eq_true (by first|(with_reducible assumption)|assumption)
                    have q312:x10_1<(l0.length:Int):=of_decide_eq_true (by first|(with_reducible assumption)|assumption)
                    obtain ⟨ad312,e312,hx312_0,hx312_1⟩:=at_T23 HR0.out x10_1 p312 q312
                    cases e312
                    replace hx312_0:=(HB.out.cell (World.block_lt_of_cell? w _ hx312_0)).trans hx312_0
                    replace hx312_1:=(HB.out.cell (World.block_lt_of_cell? w _ hx312_1)).trans hx312_1
                    replace p312:=eq_true p312
                    replace q312:=eq_true q312
                    go_wp2_with (first|((with_reducible refine gate_dst (N:=7) rfl ?_);refine box_event ?hg (N:=7) ?hd (cs:=#[.int .i64 0,.int .i64 0]) (t:=23) ?hr ?_;(case hd=>rfl);(case hg=>rfl);(case hr=>first|(go_simp;done)|(go_simp;rfl));intro gb313 hg w18 hbox hb;have n0_:=aK (below_step (by repeat (first|(with_reducible first|exact HB.out|apply below_alloc|apply pw_below_drewN|apply below_drew1)|exact HB.out)) hb);have n1_:=aK (hbox);have n2_:=aK ((by rw [hg];exact (below_size (by repeat (first|(with_reducible first|exact HB.out|apply below_alloc|apply pw_below_drewN|apply below_drew1)|exact HB.out))):w.heap.size≤gb313));have n3_:=aK ((by rw [hg];exact (below_size (by repeat (first|(with_reducible first|exact HB.out|apply below_alloc|apply pw_below_drewN|apply below_drew1)|exact HB.out))):w.heap.size≤gb313));clear HB;have HB:=n0_;have BK313:=n1_;have GW313:=n2_;have GE313:=n3_;clear n0_ n1_ n2_ n3_;clear hb hbox hg;have hcz19_0:w18.cell? ⟨gb313,0,none⟩=some (.int .i64 0):=(blk_cell BK313.out 0).trans rfl;have hcz19_1:w18.cell? ⟨gb313,1,none⟩=some (.int .i64 0):=(blk_cell BK313.out 1).trans rfl;have hfz19_0:=blk_frozen BK313.out 0;have hfz19_1:=blk_frozen BK313.out 1))
                    go_roundg k1
                    case measure=>have:=HK1.out;omega
                    case rel=>exact ⟨((rd_T23 l0 x10_1).f1),(wrap64 (x10_1+1)),(by first|rfl|(simp;done)|(simp [*];done)),(by first|rfl|(simp;done)|(simp [*];done)),H',⟨by have:=HK1.out;omega⟩,⟨by repeat (first|(with_reducible first|exact HB.out|apply below_alloc|apply pw_below_drewN|apply below_drew1|refine below_set ?_ GE313.out)|exact HB.out)⟩⟩
          · rw [if_neg c5] at H
            exact absurd H (by simp)
        · rw [if_neg c4] at H
          exact absurd H (by simp)
      · rw [if_neg c3] at H
        have c3b0:decide (x10_1<(l0.length:Int))=false:=decide_eq_false c3
        clear c3
        obtain rfl:=Option.some.inj H
        go_wp2
        go_ret
        exact ⟨by first|rfl|(simp [errW_none,errW_some] <;> rfl)|(simp [*,errW_none,errW_some] <;> rfl),by repeat (first|(with_reducible first|exact HB.out|apply below_alloc|apply pw_below_drewN|apply below_drew1)|exact HB.out)⟩

/-! ### fleuronref19_Pixels: function 55 -/
mutual
def fleuronref19_Pixels.l0:Nat→List Bool→List (S23)→Int→Int→Option (List Bool)
  | 0,_,_,_,_=>none
  | k+1,x5,x11,x12,x13=>if x13<x12 then (if 0≤x13 then (if x13<(x11.length:Int) then (fleuronref19_Pixels.l1 k x5 ((rd_T23 x11 x13).f0) x11 x12 x13 ((rd_T23 x11 x13).f0) ((rd_T23 x11 x13).f1)) else (none)) else (none)) else (some x5)
def fleuronref19_Pixels.l1:Nat→List Bool→Int→List (S23)→Int→Int→Int→Int→Option (List Bool)
  | 0,_,_,_,_,_,_,_=>none
  | k+1,x5,x8,x11,x12,x13,x319000,x319001=>if x8<x319001 then (if 0≤x8 then (if x8<(x5.length:Int) then (fleuronref19_Pixels.l1 k (x5.set (x8:Int).toNat true) (wrap64 (x8+1)) x11 x12 x13 x319000 x319001) else (none)) else (none)) else (fleuronref19_Pixels.l0 k x5 x11 x12 (wrap64 (x13+1)))
end
def fleuronref19_Pixels.f (k:Nat) (l0:List (S23)) (a1:Int):Option (List Bool):=if 0≤a1 then (if (a1:Int).toNat≤281474976710656 then (fleuronref19_Pixels.l0 k (List.replicate (a1:Int).toNat false) l0 (l0.length:Int) 0) else (none)) else (none)
theorem fleuronref19_Pixels.mono_l : ∀ k,(∀ y0 y1 y2 y3,LeO (fleuronref19_Pixels.l0 k y0 y1 y2 y3) (fleuronref19_Pixels.l0 (k+1) y0 y1 y2 y3))∧(∀ y0 y1 y2 y3 y4 y5 y6,LeO (fleuronref19_Pixels.l1 k y0 y1 y2 y3 y4 y5 y6) (fleuronref19_Pixels.l1 (k+1) y0 y1 y2 y3 y4 y5 y6))
  | 0=>⟨fun _ _ _ _ r h=>by simp [fleuronref19_Pixels.l0] at h,fun _ _ _ _ _ _ _ r h=>by simp [fleuronref19_Pixels.l1] at h⟩
  | k+1=>by
    obtain ⟨ih0,ih1⟩:=fleuronref19_Pixels.mono_l k
    refine ⟨?_,?_⟩
    · intro y0 y1 y2 y3
      unfold fleuronref19_Pixels.l0
      repeat' first
      | (with_reducible exact ih0 _ _ _ _)
      | (with_reducible exact ih1 _ _ _ _ _ _ _)
      | (with_reducible exact LeO.refl _)
      | (with_reducible exact LeO.none _)
      | (with_reducible refine LeO.ite ?_ ?_)
      | (with_reducible refine LeO.bind ?_ (fun _=>?_))
      | exact ih0 _ _ _ _
      | exact ih1 _ _ _ _ _ _ _
      | exact LeO.none _
      | refine LeO.ite ?_ ?_
      | refine LeO.bind ?_ (fun _=>?_)
    · intro y0 y1 y2 y3 y4 y5 y6
      unfold fleuronref19_Pixels.l1
      repeat' first
      | (with_reducible exact ih0 _ _ _ _)
      | (with_reducible exact ih1 _ _ _ _ _ _ _)
      | (with_reducible exact LeO.refl _)
      | (with_reducible exact LeO.none _)
      | (with_reducible refine LeO.ite ?_ ?_)
      | (with_reducible refine LeO.bind ?_ (fun _=>?_))
      | exact ih0 _ _ _ _
      | exact ih1 _ _ _ _ _ _ _
      | exact LeO.none _
      | refine LeO.ite ?_ ?_
      | refine LeO.bind ?_ (fun _=>?_)
theorem fleuronref19_Pixels.mono : ∀ a0 a1 k,LeO (fleuronref19_Pixels.f k a0 a1) (fleuronref19_Pixels.f (k+1) a0 a1):=by
  intro a0 a1 k
  obtain ⟨ih0,ih1⟩:=fleuronref19_Pixels.mono_l k
  unfold fleuronref19_Pixels.f
  repeat' first
      | (with_reducible exact ih0 _ _ _ _)
      | (with_reducible exact ih1 _ _ _ _ _ _ _)
      | (with_reducible exact LeO.refl _)
      | (with_reducible exact LeO.none _)
      | (with_reducible refine LeO.ite ?_ ?_)
      | (with_reducible refine LeO.bind ?_ (fun _=>?_))
      | exact ih0 _ _ _ _
      | exact ih1 _ _ _ _ _ _ _
      | exact LeO.none _
      | refine LeO.ite ?_ ?_
      | refine LeO.bind ?_ (fun _=>?_)
set_option maxHeartbeats 8000000 in
set_option maxRecDepth 100000 in
theorem fleuronref19_Pixels.calls (k:Nat) (A0:Option Addr) (c0:Nat) (l0:List (S23)) (a1:Int) (r:List Bool) (w:World) (hr0:Kd.C k23 w A0 l0.length l0) (hc0:l0.length≤c0) (h:fleuronref19_Pixels.f k l0 a1=some r) :
    Calls Tryz.prog 55 #[.slice A0 l0.length c0,.int .i64 a1] w fun e w'=>∃ v0_:Value,e = .returned (v0_)∧Kd.R Kd.bool 4 w' w.heap.size (fun _=>True) v0_ r∧Below w.heap.size w w':=by
  have hu23:=Tryz.underlying23
  have HR0:=aK hr0
  have HC0:=aK hc0
  clear hr0 hc0
  have HB:=aK (Below.refl w.heap.size w)
  have H:(if 0≤a1 then (if (a1:Int).toNat≤281474976710656 then (fleuronref19_Pixels.l0 k (List.replicate (a1:Int).toNat false) l0 (l0.length:Int) 0) else (none)) else (none))=some r:=h
  clear h
  by_cases c3:0≤a1
  · rw [if_pos c3] at H
    have c3b0:=eq_true c3
    have c3b1:decide (0≤a1)=true:=decide_eq_true c3
    clear c3
    by_cases c4:(a1:Int).toNat≤281474976710656
    · rw [if_pos c4] at H
      have c4b0:=eq_true c4
      have c4b1:decide ((a1:Int).toNat≤281474976710656)=true:=decide_eq_true c4
      clear c4
      obtain ⟨y314,hy314⟩ : ∃ y_:List Bool,y_=(List.replicate (a1:Int).toNat false):=⟨_,rfl⟩
      replace H:(fleuronref19_Pixels.l0 k y314 l0 (l0.length:Int) 0)=some r:=by first|(rw [hy314];with_reducible exact H)|(have H2_:=(Option.bind_some _ _).symm.trans H;rw [hy314];with_reducible exact H2_)|(have H2_:=(Option.bind_some _ _).symm.trans H;with_reducible exact H2_)|with_reducible exact H|(rw [hy314];exact H)|exact H
      have Ny314:=aK hy314
      clear hy314
      have H':=aK H
      clear H
      go_enter Tryz.func55,Tryz.ntmps55
      go_wp2_with (first|((with_reducible refine gate_dst (N:=10) rfl ?_);refine Kd.R_make Kd.bool _ 4 rfl (N:=10) rfl 51 _ _ rfl a1 rfl rfl Tryz.underlying51 (.bool false) 1 info4 rfl (by decide) (by omega) false (ok:=fun _=>True) (okp:=fun _=>True) rfl (fun _ hk=>hk) trivial (of_decide_eq_true (by first|(with_reducible assumption)|assumption)) (Nat.le_trans (Nat.mul_le_mul_right _ (of_decide_eq_true (by first|(with_reducible assumption)|assumption):a1.toNat≤281474976710656)) (by omega)) (Below.refl _ _) (Nat.le_refl _) ?_;intro v315 w5 ho6 hb hg_ hnew_;clear hg_ hnew_;(first|rw [← Ny314.out] at ho6|(simp only [Int.reduceToNat] at ho6;rw [← Ny314.out] at ho6));have n0_:=aK (Kd.R_lower ho6 (below_size (by repeat (first|(with_reducible first|exact HB.out|apply below_alloc|apply pw_below_drewN|apply below_drew1)|exact HB.out))));have n1_:=aK (below_step (by repeat (first|(with_reducible first|exact HB.out|apply below_alloc|apply pw_below_drewN|apply below_drew1)|exact HB.out)) hb);clear HB;have HO316:=n0_;have HB:=n1_;clear n0_ n1_;clear hb ho6))
      go_loopg [13] k (fun kq v13 w'=>∃ (x5_1:List Bool) (x13_1:Int),v13 = .int .i64 x13_1∧Aside0 (fleuronref19_Pixels.l0 kq x5_1 l0 (l0.length:Int) x13_1=some r)∧Aside0 (kq≤k)∧Aside0 (Kd.R Kd.bool 4 w' w.heap.size (fun _=>True) v315 x5_1)∧Aside0 (Below w.heap.size w w'))
      case atStart=>exact ⟨(y314),(0),(by first|rfl|(simp;done)|(simp [*];done)),H',⟨Nat.le_refl _⟩,⟨by (with_reducible repeat (first|apply Kd.R_alloc|apply Kd.R_drewN|apply Kd.R_drew));exact HO316.out⟩,⟨by repeat (first|(with_reducible first|exact HB.out|apply below_alloc|apply pw_below_drewN|apply below_drew1)|exact HB.out)⟩⟩
      case round =>
        clear H'
        try clear p2
        try clear c3
        try clear c3b0
        try clear c3b1
        try clear c4
        try clear c4b0
        try clear c4b1
        try clear c5
        obtain ⟨x5_1,x13_1,rfl,HA,HK1,HO_5,HB⟩:=hrel
        cases gk with
        | zero=>exact absurd HA.out (by simp [fleuronref19_Pixels.l0])
        | succ k1 =>
          have H:=HA.out
          clear HA
          simp only [fleuronref19_Pixels.l0] at H
          by_cases c7:x13_1<(l0.length:Int)
          · rw [if_pos c7] at H
            have c7b0:decide (x13_1<(l0.length:Int))=true:=decide_eq_true c7
            clear c7
            by_cases c8:0≤x13_1
            · rw [if_pos c8] at H
              have c8b0:decide (0≤x13_1)=true:=decide_eq_true c8
              clear c8
              by_cases c9:x13_1<(l0.length:Int)
              · rw [if_pos c9] at H
                have c9b0:decide (x13_1<(l0.length:Int))=true:=decide_eq_true c9
                clear c9
                have H':=aK H
                clear H
                have p317:0≤(x13_1:Int):=of_decide_eq_true (by first|(with_reducible assumption)|assumption)
                have q317:x13_1<(l0.length:Int):=of_decide_eq_true (by first|(with_reducible assumption)|assumption)
                obtain ⟨ad317,e317,hx317_0,hx317_1⟩:=at_T23 HR0.out x13_1 p317 q317
                cases e317
                replace hx317_0:=(HB.out.cell (World.block_lt_of_cell? w _ hx317_0)).trans hx317_0
                replace hx317_1:=(HB.out.cell (World.block_lt_of_cell? w _ hx317_1)).trans hx317_1
                replace p317:=eq_true p317
                replace q317:=eq_true q317
                go_wp2_with (first|((with_reducible refine gate_dst (N:=7) rfl ?_);refine box_event ?hg (N:=7) ?hd (cs:=#[.int .i64 0,.int .i64 0]) (t:=23) ?hr ?_;(case hd=>rfl);(case hg=>rfl);(case hr=>first|(go_simp;done)|(go_simp;rfl));intro gb318 hg w10 hbox hb;have n0_:=aK (Kd.R_below (by (with_reducible repeat (first|apply Kd.R_alloc|apply Kd.R_drewN|apply Kd.R_drew));exact HO_5.out) hb);have n1_:=aK (below_step (by repeat (first|(with_reducible first|exact HB.out|apply below_alloc|apply pw_below_drewN|apply below_drew1)|exact HB.out)) hb);have n2_:=aK (hbox);have n3_:=aK ((by rw [hg];exact (below_size (by repeat (first|(with_reducible first|exact HB.out|apply below_alloc|apply pw_below_drewN|apply below_drew1)|exact HB.out))):w.heap.size≤gb318));have n4_:=aK ((by rw [hg];exact (below_size (by repeat (first|(with_reducible first|exact HB.out|apply below_alloc|apply pw_below_drewN|apply below_drew1)|exact HB.out))):w.heap.size≤gb318));clear HO_5;clear HB;have HO_5:=n0_;have HB:=n1_;have BK318:=n2_;have GW318:=n3_;have GE318:=n4_;clear n0_ n1_ n2_ n3_ n4_;clear hb hbox hg;have hcz11_0:w10.cell? ⟨gb318,0,none⟩=some (.int .i64 0):=(blk_cell BK318.out 0).trans rfl;have hcz11_1:w10.cell? ⟨gb318,1,none⟩=some (.int .i64 0):=(blk_cell BK318.out 1).trans rfl;have hfz11_0:=blk_frozen BK318.out 0;have hfz11_1:=blk_frozen BK318.out 1))
                go_loopg [8] k1 (fun kq v8 w'=>∃ (x5_2:List Bool) (x8_2:Int),v8 = .int .i64 x8_2∧Aside0 (fleuronref19_Pixels.l1 kq x5_2 x8_2 l0 (l0.length:Int) x13_1 ((rd_T23 l0 x13_1).f0) ((rd_T23 l0 x13_1).f1)=some r)∧Aside0 (kq≤k1)∧Aside0 (Kd.R Kd.bool 4 w' w.heap.size (fun _=>True) v315 x5_2)∧Aside0 (w'.heap[gb318]?=some (.cells #[.int .i64 ((rd_T23 l0 x13_1).f0),.int .i64 ((rd_T23 l0 x13_1).f1)] 23 (0,0)))∧Aside0 (Below w.heap.size w w'))
                case atStart=>exact ⟨(x5_1),((rd_T23 l0 x13_1).f0),(by first|rfl|(simp;done)|(simp [*];done)),H',⟨Nat.le_refl _⟩,⟨by (with_reducible repeat (first|apply Kd.R_alloc|apply Kd.R_drewN|apply Kd.R_drew));exact Kd.R_mono (Kd.R_far (p:=⟨gb318,1,none⟩) (Kd.R_far (p:=⟨gb318,0,none⟩) (Kd.R_types HO_5.out BK318.out (by decide)) (fun _ hk=>hk.2) (.int .i64 ((rd_T23 l0 x13_1).f0))) (fun _ hk=>hk.2) (.int .i64 ((rd_T23 l0 x13_1).f1))) (fun _ hk=>trivial)⟩,⟨by (with_reducible repeat (first|refine blk_drewN ?_ _|refine blk_drew ?_|refine blk_alloc ?_ _));refine blk_put (cs:=#[.int .i64 ((rd_T23 l0 x13_1).f0),.int .i64 0]) ?_ 1 _ rfl;(with_reducible repeat (first|refine blk_drewN ?_ _|refine blk_drew ?_|refine blk_alloc ?_ _));refine blk_put (cs:=#[.int .i64 0,.int .i64 0]) ?_ 0 _ rfl;(with_reducible repeat (first|refine blk_drewN ?_ _|refine blk_drew ?_|refine blk_alloc ?_ _));exact BK318.out⟩,⟨by repeat (first|(with_reducible first|exact HB.out|apply below_alloc|apply pw_below_drewN|apply below_drew1|refine below_set ?_ GE318.out)|exact HB.out)⟩⟩
                case round =>
                  clear H'
                  try clear p2
                  try clear c3
                  try clear c3b0
                  try clear c3b1
                  try clear p3
                  try clear q3
                  try clear hx3
                  try clear c4
                  try clear c4b0
                  try clear c4b1
                  try clear c5
                  try clear c7
                  try clear c7b0
                  try clear c8
                  try clear c8b0
                  try clear c9
                  try clear c9b0
                  try clear hcz11_0
                  try clear hcz11_1
                  try clear hfz11_0
                  try clear hfz11_1
                  try clear hx317_0
                  try clear hx317_1
                  try clear p2
                  try clear p317
                  try clear q317
                  obtain ⟨x5_2,x8_2,rfl,HA,HK2,HO_5,BK318,HB⟩:=hrel
                  cases gk with
                  | zero=>exact absurd HA.out (by simp [fleuronref19_Pixels.l1])
                  | succ k2 =>
                    have H:=HA.out
                    clear HA
                    simp only [fleuronref19_Pixels.l1] at H
                    by_cases c12:x8_2<((rd_T23 l0 x13_1).f1)
                    · rw [if_pos c12] at H
                      have c12b0:decide (x8_2<((rd_T23 l0 x13_1).f1))=true:=decide_eq_true c12
                      clear c12
                      by_cases c13:0≤x8_2
                      · rw [if_pos c13] at H
                        have c13b0:decide (0≤x8_2)=true:=decide_eq_true c13
                        clear c13
                        by_cases c14:x8_2<(x5_2.length:Int)
                        · rw [if_pos c14] at H
                          have c14b0:decide (x8_2<(x5_2.length:Int))=true:=decide_eq_true c14
                          clear c14
                          obtain ⟨y319,hy319⟩ : ∃ y_:List Bool,y_=(x5_2.set (x8_2:Int).toNat true):=⟨_,rfl⟩
                          replace H:(fleuronref19_Pixels.l1 k2 y319 (wrap64 (x8_2+1)) l0 (l0.length:Int) x13_1 ((rd_T23 l0 x13_1).f0) ((rd_T23 l0 x13_1).f1))=some r:=by first|(rw [hy319];with_reducible exact H)|(have H2_:=(Option.bind_some _ _).symm.trans H;rw [hy319];with_reducible exact H2_)|(have H2_:=(Option.bind_some _ _).symm.trans H;with_reducible exact H2_)|with_reducible exact H|(rw [hy319];exact H)|exact H
                          have Ny319:=aK hy319
                          clear hy319
                          have H':=aK H
                          clear H
                          have hcz16_0:wr.cell? ⟨gb318,0,none⟩=some (.int .i64 ((rd_T23 l0 x13_1).f0)):=(blk_cell BK318.out 0).trans rfl
                          have hcz16_1:wr.cell? ⟨gb318,1,none⟩=some (.int .i64 ((rd_T23 l0 x13_1).f1)):=(blk_cell BK318.out 1).trans rfl
                          have hfz16_0:=blk_frozen BK318.out 0
                          have hfz16_1:=blk_frozen BK318.out 1
                          have p15:0≤(x8_2:Int):=of_decide_eq_true (by first|(with_reducible assumption)|assumption)
                          have q15:(x8_2:Int)<((x5_2.length:Int):Int):=of_decide_eq_true (by first|(with_reducible assumption)|assumption)
                          obtain ⟨go15,co15,eo15,gb15,gl15,cl15,HG15⟩:=Kd.R_form HO_5.out (by omega)
                          (first|cases eo15|(injection eo15 with ea_ en_ ec_;(first|subst ea_|(injection ea_ with ea_;subst ea_));subst ec_;clear en_))
                          have GB15:=aK gb15
                          have GG15:=aK HG15
                          clear gb15 gl15 HG15
                          obtain ⟨hx15_0,hf15_0⟩:=Kd.R_celln false HO_5.out (x8_2:Int) p15 q15
                          replace p15:=eq_true p15
                          replace q15:=eq_true q15
                          have HP17:=Kd.R_putg HO_5.out (x8_2:Int) true
                          go_wp2_with (first|((with_reducible refine gate_store (t:=4) (p:=27) rfl ?_);refine store_event (t:=4) (p:=27) (v:=?vo_w18) (w1:=(wr.setCell ⟨go15,(x8_2:Int).toNat,none⟩ (.bool true))) ?hg ?ho ?hn ?hr ?_;(case ho=>rfl);(case hg=>rfl);(case hn=>rfl);(case hr=>first|(go_simp;done)|(go_simp;rfl));intro w18 hw;have hg:wr.grownBy w18 (some go15):=(by rw [hw];exact HP17.2);have hp_:Kd.R Kd.bool 4 w18 w.heap.size (fun _=>True) (.slice (some ⟨go15,0,none⟩) x5_2.length co15) y319:=(by rw [hw,Ny319.out];exact HP17.1);clear HP17;have n0_:=aK (hp_);have n1_:=aK (blk_grown (g:=gb318) (o:=.cells #[.int .i64 ((rd_T23 l0 x13_1).f0),.int .i64 ((rd_T23 l0 x13_1).f1)] 23 (0,0)) (by (with_reducible repeat (first|refine blk_drewN ?_ _|refine blk_drew ?_|refine blk_alloc ?_ _));exact BK318.out) hg (Kd.R_ne HO_5.out BK318.out (by decide)));have n2_:=aK ((by rw [hw];exact below_set (HB.out) GB15.out:Below w.heap.size w w18));clear HO_5;clear BK318;clear HB;have HO_5:=n0_;have BK318:=n1_;have HB:=n2_;clear n0_ n1_ n2_;clear hg hw hp_))
                          go_roundg k2
                          case measure=>have:=HK1.out;have:=HK2.out;omega
                          case rel=>exact ⟨(y319),(wrap64 (x8_2+1)),(by first|rfl|(simp;done)|(simp [*];done)),H',⟨by have:=HK1.out;have:=HK2.out;omega⟩,⟨by (with_reducible repeat (first|apply Kd.R_alloc|apply Kd.R_drewN|apply Kd.R_drew));exact HO_5.out⟩,⟨by (with_reducible repeat (first|refine blk_drewN ?_ _|refine blk_drew ?_|refine blk_alloc ?_ _));exact BK318.out⟩,⟨by repeat (first|(with_reducible first|exact HB.out|apply below_alloc|apply pw_below_drewN|apply below_drew1|refine below_set ?_ GE318.out)|exact HB.out)⟩⟩
                        · rw [if_neg c14] at H
                          exact absurd H (by simp)
                      · rw [if_neg c13] at H
                        exact absurd H (by simp)
                    · rw [if_neg c12] at H
                      have c12b0:decide (x8_2<((rd_T23 l0 x13_1).f1))=false:=decide_eq_false c12
                      clear c12
                      have H':=aK H
                      clear H
                      have hcz19_0:wr.cell? ⟨gb318,0,none⟩=some (.int .i64 ((rd_T23 l0 x13_1).f0)):=(blk_cell BK318.out 0).trans rfl
                      have hcz19_1:wr.cell? ⟨gb318,1,none⟩=some (.int .i64 ((rd_T23 l0 x13_1).f1)):=(blk_cell BK318.out 1).trans rfl
                      have hfz19_0:=blk_frozen BK318.out 0
                      have hfz19_1:=blk_frozen BK318.out 1
                      go_wp2
                      go_roundg k2
                      case measure=>have:=HK1.out;have:=HK2.out;omega
                      case rel=>exact ⟨(x5_2),(wrap64 (x13_1+1)),(by first|rfl|(simp;done)|(simp [*];done)),H',⟨by have:=HK1.out;have:=HK2.out;omega⟩,⟨by (with_reducible repeat (first|apply Kd.R_alloc|apply Kd.R_drewN|apply Kd.R_drew));exact HO_5.out⟩,⟨by repeat (first|(with_reducible first|exact HB.out|apply below_alloc|apply pw_below_drewN|apply below_drew1|refine below_set ?_ GE318.out)|exact HB.out)⟩⟩
              · rw [if_neg c9] at H
                exact absurd H (by simp)
            · rw [if_neg c8] at H
              exact absurd H (by simp)
          · rw [if_neg c7] at H
            have c7b0:decide (x13_1<(l0.length:Int))=false:=decide_eq_false c7
            clear c7
            obtain rfl:=Option.some.inj H
            go_wp2
            go_ret
            exact ⟨_,by first|rfl|(simp [errW_none,errW_some] <;> rfl)|(simp [*,errW_none,errW_some] <;> rfl),by (with_reducible repeat (first|apply Kd.R_alloc|apply Kd.R_drewN|apply Kd.R_drew));exact HO_5.out,by repeat (first|(with_reducible first|exact HB.out|apply below_alloc|apply pw_below_drewN|apply below_drew1)|exact HB.out)⟩
    · rw [if_neg c4] at H
      exact absurd H (by simp)
  · rw [if_neg c3] at H
    exact absurd H (by simp)

end Go.Proofs.YtckjlckhjcbddaaGreat.PG3
