import Derived.Test.YtckjlckhjcbddaaGreatPG3x0
set_option maxRecDepth 100000
namespace Go.Proofs.YtckjlckhjcbddaaGreat.PG3
open Go.RowKit Go.Proofs.YtckjlckhjcbddaaGreatW.PrintWords Go.Proofs.YtckjlckhjcbddaaGreatW.PrintLast Go.Proofs.YtckjlckhjcbddaaGreatW.PrintMore
attribute [local go_sem] max2_int min2_int max_two min_two max_three min_three max_four min_four
set_option linter.unusedVariables false
set_option linter.unusedSimpArgs false
def fleuronref16_In.f (a0_0:Int) (a0_1:Int):Option (Bool):=if a0_0≥(-268435455) then (if a0_0≤268435455 then (if a0_1≥(-268435455) then (some (decide (a0_1≤268435455))) else (some false)) else (some false)) else (some false)
set_option maxHeartbeats 8000000 in
theorem fleuronref16_In.calls (a0_0:Int) (a0_1:Int) (r:Bool) (w:World) (h:fleuronref16_In.f a0_0 a0_1=some r) :
  Calls Tryz.prog 59 #[.agg #[.int .i64 a0_0,.int .i64 a0_1]] w fun e w'=>e = .returned (.bool r)∧Below w.heap.size w w':=by
 have hu47:=Tryz.underlying47
 have HB:=aK (Below.refl w.heap.size w)
 have H:(if a0_0≥(-268435455) then (if a0_0≤268435455 then (if a0_1≥(-268435455) then (some (decide (a0_1≤268435455))) else (some false)) else (some false)) else (some false))=some r:=h
 clear h
 by_cases c2:a0_0≥(-268435455)
 ·rw [if_pos c2] at H
  have c2b0:decide ((-268435455)≤a0_0)=true:=decide_eq_true c2
  clear c2
  by_cases c3:a0_0≤268435455
  ·rw [if_pos c3] at H
   have c3b0:decide (a0_0≤268435455)=true:=decide_eq_true c3
   clear c3
   by_cases c4:a0_1≥(-268435455)
   ·rw [if_pos c4] at H
    have c4b0:decide ((-268435455)≤a0_1)=true:=decide_eq_true c4
    clear c4
    obtain rfl:=Option.some.inj H
    go_enter Tryz.func59,Tryz.ntmps59
    go_wp2_with ((with_reducible refine gate_dst (N:=1) rfl ?_);refine box_event ?hg (N:=1) ?hd (cs:=#[.int .i64 a0_0,.int .i64 a0_1]) (t:=47) ?hr ?_;(case hd=>rfl);(case hg=>rfl);(case hr=>first|(go_simp;done)|(go_simp;rfl));intro gb184 hg w5 hbox hb;have n0_:=aK (below_step (by repeat (first|(with_reducible first|exact HB.out|apply below_alloc|apply pw_below_drewN|apply below_drew1)|exact HB.out)) hb);have n1_:=aK (hbox);have n2_:=aK ((by rw [hg];exact (below_size (by repeat (first|(with_reducible first|exact HB.out|apply below_alloc|apply pw_below_drewN|apply below_drew1)|exact HB.out))):w.heap.size≤gb184));have n3_:=n2_;clear HB;have HB:=n0_;have BK184:=n1_;have GW184:=n2_;have GE184:=n3_;clear n0_ n1_ n2_ n3_;clear hb hbox hg;have hcz6_0:w5.cell? ⟨gb184,0,none⟩=some (.int .i64 a0_0):=(blk_cell BK184.out 0).trans rfl;have hcz6_1:w5.cell? ⟨gb184,1,none⟩=some (.int .i64 a0_1):=(blk_cell BK184.out 1).trans rfl;have hfz6_0:=blk_frozen BK184.out 0;have hfz6_1:=blk_frozen BK184.out 1)
    go_ret
    exact ⟨by first|rfl|(simp [errW_none,errW_some] <;> rfl)|(simp [*,errW_none,errW_some] <;> rfl),by repeat (first|(with_reducible first|exact HB.out|apply below_alloc|apply pw_below_drewN|apply below_drew1|refine below_set ?_ GE184.out)|exact HB.out)⟩
   ·rw [if_neg c4] at H
    have c4b0:decide ((-268435455)≤a0_1)=false:=decide_eq_false c4
    clear c4
    obtain rfl:=Option.some.inj H
    go_enter Tryz.func59,Tryz.ntmps59
    go_wp2_with ((with_reducible refine gate_dst (N:=1) rfl ?_);refine box_event ?hg (N:=1) ?hd (cs:=#[.int .i64 a0_0,.int .i64 a0_1]) (t:=47) ?hr ?_;(case hd=>rfl);(case hg=>rfl);(case hr=>first|(go_simp;done)|(go_simp;rfl));intro gb184 hg w7 hbox hb;have n0_:=aK (below_step (by repeat (first|(with_reducible first|exact HB.out|apply below_alloc|apply pw_below_drewN|apply below_drew1)|exact HB.out)) hb);have n1_:=aK (hbox);have n2_:=aK ((by rw [hg];exact (below_size (by repeat (first|(with_reducible first|exact HB.out|apply below_alloc|apply pw_below_drewN|apply below_drew1)|exact HB.out))):w.heap.size≤gb184));have n3_:=n2_;clear HB;have HB:=n0_;have BK184:=n1_;have GW184:=n2_;have GE184:=n3_;clear n0_ n1_ n2_ n3_;clear hb hbox hg;have hcz8_0:w7.cell? ⟨gb184,0,none⟩=some (.int .i64 a0_0):=(blk_cell BK184.out 0).trans rfl;have hcz8_1:w7.cell? ⟨gb184,1,none⟩=some (.int .i64 a0_1):=(blk_cell BK184.out 1).trans rfl;have hfz8_0:=blk_frozen BK184.out 0;have hfz8_1:=blk_frozen BK184.out 1)
    go_ret
    exact ⟨by first|rfl|(simp [errW_none,errW_some] <;> rfl)|(simp [*,errW_none,errW_some] <;> rfl),by repeat (first|(with_reducible first|exact HB.out|apply below_alloc|apply pw_below_drewN|apply below_drew1|refine below_set ?_ GE184.out)|exact HB.out)⟩
  ·rw [if_neg c3] at H
   have c3b0:decide (a0_0≤268435455)=false:=decide_eq_false c3
   clear c3
   obtain rfl:=Option.some.inj H
   go_enter Tryz.func59,Tryz.ntmps59
   go_wp2_with ((with_reducible refine gate_dst (N:=1) rfl ?_);refine box_event ?hg (N:=1) ?hd (cs:=#[.int .i64 a0_0,.int .i64 a0_1]) (t:=47) ?hr ?_;(case hd=>rfl);(case hg=>rfl);(case hr=>first|(go_simp;done)|(go_simp;rfl));intro gb184 hg w9 hbox hb;have n0_:=aK (below_step (by repeat (first|(with_reducible first|exact HB.out|apply below_alloc|apply pw_below_drewN|apply below_drew1)|exact HB.out)) hb);have n1_:=aK (hbox);have n2_:=aK ((by rw [hg];exact (below_size (by repeat (first|(with_reducible first|exact HB.out|apply below_alloc|apply pw_below_drewN|apply below_drew1)|exact HB.out))):w.heap.size≤gb184));have n3_:=n2_;clear HB;have HB:=n0_;have BK184:=n1_;have GW184:=n2_;have GE184:=n3_;clear n0_ n1_ n2_ n3_;clear hb hbox hg;have hcz10_0:w9.cell? ⟨gb184,0,none⟩=some (.int .i64 a0_0):=(blk_cell BK184.out 0).trans rfl;have hcz10_1:w9.cell? ⟨gb184,1,none⟩=some (.int .i64 a0_1):=(blk_cell BK184.out 1).trans rfl;have hfz10_0:=blk_frozen BK184.out 0;have hfz10_1:=blk_frozen BK184.out 1)
   go_ret
   exact ⟨by first|rfl|(simp [errW_none,errW_some] <;> rfl)|(simp [*,errW_none,errW_some] <;> rfl),by repeat (first|(with_reducible first|exact HB.out|apply below_alloc|apply pw_below_drewN|apply below_drew1|refine below_set ?_ GE184.out)|exact HB.out)⟩
 ·rw [if_neg c2] at H
  have c2b0:decide ((-268435455)≤a0_0)=false:=decide_eq_false c2
  clear c2
  obtain rfl:=Option.some.inj H
  go_enter Tryz.func59,Tryz.ntmps59
  go_wp2_with ((with_reducible refine gate_dst (N:=1) rfl ?_);refine box_event ?hg (N:=1) ?hd (cs:=#[.int .i64 a0_0,.int .i64 a0_1]) (t:=47) ?hr ?_;(case hd=>rfl);(case hg=>rfl);(case hr=>first|(go_simp;done)|(go_simp;rfl));intro gb184 hg w11 hbox hb;have n0_:=aK (below_step (by repeat (first|(with_reducible first|exact HB.out|apply below_alloc|apply pw_below_drewN|apply below_drew1)|exact HB.out)) hb);have n1_:=aK (hbox);have n2_:=aK ((by rw [hg];exact (below_size (by repeat (first|(with_reducible first|exact HB.out|apply below_alloc|apply pw_below_drewN|apply below_drew1)|exact HB.out))):w.heap.size≤gb184));have n3_:=n2_;clear HB;have HB:=n0_;have BK184:=n1_;have GW184:=n2_;have GE184:=n3_;clear n0_ n1_ n2_ n3_;clear hb hbox hg;have hcz12_0:w11.cell? ⟨gb184,0,none⟩=some (.int .i64 a0_0):=(blk_cell BK184.out 0).trans rfl;have hcz12_1:w11.cell? ⟨gb184,1,none⟩=some (.int .i64 a0_1):=(blk_cell BK184.out 1).trans rfl;have hfz12_0:=blk_frozen BK184.out 0;have hfz12_1:=blk_frozen BK184.out 1)
  go_ret
  exact ⟨by first|rfl|(simp [errW_none,errW_some] <;> rfl)|(simp [*,errW_none,errW_some] <;> rfl),by repeat (first|(with_reducible first|exact HB.out|apply below_alloc|apply pw_below_drewN|apply below_drew1|refine below_set ?_ GE184.out)|exact HB.out)⟩
def fleuronref16_All.l0:Nat→List (S47)→Int→Int→Option (Bool)
 | 0,_,_,_=>none
 | k+1,x5,x6,x7=>if x7<x6 then (if 0≤x7 then (if x7<(x5.length:Int) then ((fleuronref16_In.f ((rd_T47 x5 x7).f0) ((rd_T47 x5 x7).f1)).bind fun t187=>(if t187=true then (fleuronref16_All.l0 k x5 x6 (wrap64 (x7+1))) else (some false))) else (none)) else (none)) else (some true)
def fleuronref16_All.f (k:Nat) (l0:List (S47)):Option (Bool):=fleuronref16_All.l0 k l0 (l0.length:Int) 0
theorem fleuronref16_All.mono_l : ∀ k,(∀ y0 y1 y2,LeO (fleuronref16_All.l0 k y0 y1 y2) (fleuronref16_All.l0 (k+1) y0 y1 y2))
 | 0=>fun _ _ _ r h=>by simp [fleuronref16_All.l0] at h
 | k+1=>by
  have ih0:=fleuronref16_All.mono_l k
  ·intro y0 y1 y2
   unfold fleuronref16_All.l0
   repeat' first
   | (with_reducible exact ih0 _ _ _)
   | (with_reducible exact LeO.refl _)
   | (with_reducible exact LeO.none _)
   | (with_reducible refine LeO.ite ?_ ?_)
   | (with_reducible refine LeO.bind ?_ (fun _=>?_))
   | exact ih0 _ _ _
   | exact LeO.none _
   | refine LeO.ite ?_ ?_
   | refine LeO.bind ?_ (fun _=>?_)
theorem fleuronref16_All.mono : ∀ a0 k,LeO (fleuronref16_All.f k a0) (fleuronref16_All.f (k+1) a0):=by
 intro a0 k
 have ih0:=fleuronref16_All.mono_l k
 unfold fleuronref16_All.f
 repeat' first
   | (with_reducible exact ih0 _ _ _)
   | (with_reducible exact LeO.refl _)
   | (with_reducible exact LeO.none _)
   | (with_reducible refine LeO.ite ?_ ?_)
   | (with_reducible refine LeO.bind ?_ (fun _=>?_))
   | exact ih0 _ _ _
   | exact LeO.none _
   | refine LeO.ite ?_ ?_
   | refine LeO.bind ?_ (fun _=>?_)
set_option maxHeartbeats 8000000 in
theorem fleuronref16_All.calls (k:Nat) (A0:Option Addr) (c0:Nat) (l0:List (S47)) (r:Bool) (w:World) (hr0:Kd.C k47 w A0 l0.length l0) (hc0:l0.length≤c0) (h:fleuronref16_All.f k l0=some r) :
  Calls Tryz.prog 29 #[.slice A0 l0.length c0] w fun e w'=>e = .returned (.bool r)∧Below w.heap.size w w':=by
 have hu47:=Tryz.underlying47
 have HR0:=aK hr0
 have HC0:=aK hc0
 clear hr0 hc0
 have HB:=aK (Below.refl w.heap.size w)
 have H:(fleuronref16_All.l0 k l0 (l0.length:Int) 0)=some r:=h
 clear h
 have H':=aK H
 clear H
 go_enter Tryz.func29,Tryz.ntmps29
 go_wp2
 go_loopg [7] k (fun kq v7 w'=>∃ (x7_1:Int),v7 = .int .i64 x7_1∧Aside0 (fleuronref16_All.l0 kq l0 (l0.length:Int) x7_1=some r)∧Aside0 (kq≤k)∧Aside0 (Below w.heap.size w w'))
 case atStart=>exact ⟨(0),(by first|rfl|(simp;done)|(simp [*];done)),H',⟨Nat.le_refl _⟩,⟨by repeat (first|(with_reducible first|exact HB.out|apply below_alloc|apply pw_below_drewN|apply below_drew1)|exact HB.out)⟩⟩
 case round =>
  clear H'
  obtain ⟨x7_1,rfl,HA,HK1,HB⟩:=hrel
  cases gk with
  | zero=>exact absurd HA.out (by simp [fleuronref16_All.l0])
  | succ k1 =>
   have H:=HA.out
   clear HA
   simp only [fleuronref16_All.l0] at H
   by_cases c2:x7_1<(l0.length:Int)
   ·rw [if_pos c2] at H
    have c2b0:decide (x7_1<(l0.length:Int))=true:=decide_eq_true c2
    clear c2
    by_cases c3:0≤x7_1
    ·rw [if_pos c3] at H
     have c3b0:decide (0≤x7_1)=true:=decide_eq_true c3
     clear c3
     by_cases c4:x7_1<(l0.length:Int)
     ·rw [if_pos c4] at H
      have c4b0:decide (x7_1<(l0.length:Int))=true:=decide_eq_true c4
      clear c4
      replace H:=Option.bind_eq_some_iff.mp H
      obtain ⟨t187,A50,H⟩:=H
      replace H:(if t187=true then (fleuronref16_All.l0 k1 l0 (l0.length:Int) (wrap64 (x7_1+1))) else (some false))=some r:=H
      have A5:=aK A50
      clear A50
      by_cases c6:t187=true
      ·subst c6
       have H1:(fleuronref16_All.l0 k1 l0 (l0.length:Int) (wrap64 (x7_1+1)))=some r:=by rw [if_pos rfl] at H;exact H
       clear H
       have H:=H1
       clear H1
       have H':=aK H
       clear H
       have p185:0≤(x7_1:Int):=of_decide_eq_true (by first|(with_reducible assumption)|assumption)
       have q185:x7_1<(l0.length:Int):=of_decide_eq_true (by first|(with_reducible assumption)|assumption)
       obtain ⟨ad185,e185,hx185_0,hx185_1⟩:=at_T47 HR0.out x7_1 p185 q185
       cases e185
       replace hx185_0:=(HB.out.cell (World.block_lt_of_cell? w _ hx185_0)).trans hx185_0
       replace hx185_1:=(HB.out.cell (World.block_lt_of_cell? w _ hx185_1)).trans hx185_1
       replace p185:=eq_true p185
       replace q185:=eq_true q185
       go_wp2_with (first|((with_reducible refine gate_dst (N:=4) rfl ?_);refine box_event ?hg (N:=4) ?hd (cs:=#[.int .i64 0,.int .i64 0]) (t:=47) ?hr ?_;(case hd=>rfl);(case hg=>rfl);(case hr=>first|(go_simp;done)|(go_simp;rfl));intro gb186 hg w7 hbox hb;have n0_:=aK (below_step (by repeat (first|(with_reducible first|exact HB.out|apply below_alloc|apply pw_below_drewN|apply below_drew1)|exact HB.out)) hb);have n1_:=aK (hbox);have n2_:=aK ((by rw [hg];exact (below_size (by repeat (first|(with_reducible first|exact HB.out|apply below_alloc|apply pw_below_drewN|apply below_drew1)|exact HB.out))):w.heap.size≤gb186));have n3_:=n2_;clear HB;have HB:=n0_;have BK186:=n1_;have GW186:=n2_;have GE186:=n3_;clear n0_ n1_ n2_ n3_;clear hb hbox hg;have hcz8_0:w7.cell? ⟨gb186,0,none⟩=some (.int .i64 0):=(blk_cell BK186.out 0).trans rfl;have hcz8_1:w7.cell? ⟨gb186,1,none⟩=some (.int .i64 0):=(blk_cell BK186.out 1).trans rfl;have hfz8_0:=blk_frozen BK186.out 0;have hfz8_1:=blk_frozen BK186.out 1)|((with_reducible refine gate_callee (f:=59) rfl ?_);refine goesL_ (some 12) rfl rfl Tryz.func59 (by kernel_rfl) rfl #[.agg #[.int .i64 ((rd_T47 l0 x7_1).f0),.int .i64 ((rd_T47 l0 x7_1).f1)]] rfl (by (try simp only [List.map_toArray,List.map_cons,List.map_nil]);first|done|rfl|(simp only [List.length_drop,List.length_take];rfl)) ?_;(with_reducible refine (fleuronref16_In.calls ((rd_T47 l0 x7_1).f0) ((rd_T47 l0 x7_1).f1) true _ A5.out).mono ?_);rintro e w9 ⟨rfl,hb⟩;refine ⟨_,rfl,?_⟩;have n0_:=aK (blk_below (g:=gb186) (o:=.cells #[.int .i64 ((rd_T47 l0 x7_1).f0),.int .i64 ((rd_T47 l0 x7_1).f1)] 47 (0,0)) (by (with_reducible repeat (first|refine blk_drewN ?_ _|refine blk_drew ?_|refine blk_alloc ?_ _));refine blk_put (cs:=#[.int .i64 ((rd_T47 l0 x7_1).f0),.int .i64 0]) ?_ 1 _ rfl;(with_reducible repeat (first|refine blk_drewN ?_ _|refine blk_drew ?_|refine blk_alloc ?_ _));refine blk_put (cs:=#[.int .i64 0,.int .i64 0]) ?_ 0 _ rfl;(with_reducible repeat (first|refine blk_drewN ?_ _|refine blk_drew ?_|refine blk_alloc ?_ _));exact BK186.out) hb);have n1_:=aK (below_step (by repeat (first|(with_reducible first|exact HB.out|apply below_alloc|apply pw_below_drewN|apply below_drew1|refine below_set ?_ GE186.out)|exact HB.out)) hb);clear BK186;clear HB;have BK186:=n0_;have HB:=n1_;clear n0_ n1_;(try clear hb);(try clear hb2);(try clear hk);(try clear hi)))
       go_roundg k1
       case measure=>have:=HK1.out;omega
       case rel=>exact ⟨(wrap64 (x7_1+1)),(by first|rfl|(simp;done)|(simp [*];done)),H',⟨by have:=HK1.out;omega⟩,⟨by repeat (first|(with_reducible first|exact HB.out|apply below_alloc|apply pw_below_drewN|apply below_drew1|refine below_set ?_ GE186.out)|exact HB.out)⟩⟩
      ·replace c6:=Bool.eq_false_iff.mpr c6
       subst c6
       have H1:(some false)=some r:=by rw [if_neg (show ¬ (false=true) by decide)] at H;exact H
       clear H
       have H:=H1
       clear H1
       obtain rfl:=Option.some.inj H
       have p185:0≤(x7_1:Int):=of_decide_eq_true (by first|(with_reducible assumption)|assumption)
       have q185:x7_1<(l0.length:Int):=of_decide_eq_true (by first|(with_reducible assumption)|assumption)
       obtain ⟨ad185,e185,hx185_0,hx185_1⟩:=at_T47 HR0.out x7_1 p185 q185
       cases e185
       replace hx185_0:=(HB.out.cell (World.block_lt_of_cell? w _ hx185_0)).trans hx185_0
       replace hx185_1:=(HB.out.cell (World.block_lt_of_cell? w _ hx185_1)).trans hx185_1
       replace p185:=eq_true p185
       replace q185:=eq_true q185
       go_wp2_with (first|((with_reducible refine gate_dst (N:=4) rfl ?_);refine box_event ?hg (N:=4) ?hd (cs:=#[.int .i64 0,.int .i64 0]) (t:=47) ?hr ?_;(case hd=>rfl);(case hg=>rfl);(case hr=>first|(go_simp;done)|(go_simp;rfl));intro gb186 hg w10 hbox hb;have n0_:=aK (below_step (by repeat (first|(with_reducible first|exact HB.out|apply below_alloc|apply pw_below_drewN|apply below_drew1)|exact HB.out)) hb);have n1_:=aK (hbox);have n2_:=aK ((by rw [hg];exact (below_size (by repeat (first|(with_reducible first|exact HB.out|apply below_alloc|apply pw_below_drewN|apply below_drew1)|exact HB.out))):w.heap.size≤gb186));have n3_:=n2_;clear HB;have HB:=n0_;have BK186:=n1_;have GW186:=n2_;have GE186:=n3_;clear n0_ n1_ n2_ n3_;clear hb hbox hg;have hcz11_0:w10.cell? ⟨gb186,0,none⟩=some (.int .i64 0):=(blk_cell BK186.out 0).trans rfl;have hcz11_1:w10.cell? ⟨gb186,1,none⟩=some (.int .i64 0):=(blk_cell BK186.out 1).trans rfl;have hfz11_0:=blk_frozen BK186.out 0;have hfz11_1:=blk_frozen BK186.out 1)|((with_reducible refine gate_callee (f:=59) rfl ?_);refine goesL_ (some 12) rfl rfl Tryz.func59 (by kernel_rfl) rfl #[.agg #[.int .i64 ((rd_T47 l0 x7_1).f0),.int .i64 ((rd_T47 l0 x7_1).f1)]] rfl (by (try simp only [List.map_toArray,List.map_cons,List.map_nil]);first|done|rfl|(simp only [List.length_drop,List.length_take];rfl)) ?_;(with_reducible refine (fleuronref16_In.calls ((rd_T47 l0 x7_1).f0) ((rd_T47 l0 x7_1).f1) false _ A5.out).mono ?_);rintro e w12 ⟨rfl,hb⟩;refine ⟨_,rfl,?_⟩;have n0_:=aK (blk_below (g:=gb186) (o:=.cells #[.int .i64 ((rd_T47 l0 x7_1).f0),.int .i64 ((rd_T47 l0 x7_1).f1)] 47 (0,0)) (by (with_reducible repeat (first|refine blk_drewN ?_ _|refine blk_drew ?_|refine blk_alloc ?_ _));refine blk_put (cs:=#[.int .i64 ((rd_T47 l0 x7_1).f0),.int .i64 0]) ?_ 1 _ rfl;(with_reducible repeat (first|refine blk_drewN ?_ _|refine blk_drew ?_|refine blk_alloc ?_ _));refine blk_put (cs:=#[.int .i64 0,.int .i64 0]) ?_ 0 _ rfl;(with_reducible repeat (first|refine blk_drewN ?_ _|refine blk_drew ?_|refine blk_alloc ?_ _));exact BK186.out) hb);have n1_:=aK (below_step (by repeat (first|(with_reducible first|exact HB.out|apply below_alloc|apply pw_below_drewN|apply below_drew1|refine below_set ?_ GE186.out)|exact HB.out)) hb);clear BK186;clear HB;have BK186:=n0_;have HB:=n1_;clear n0_ n1_;(try clear hb);(try clear hb2);(try clear hk);(try clear hi)))
       go_ret
       exact ⟨by first|rfl|(simp [errW_none,errW_some] <;> rfl)|(simp [*,errW_none,errW_some] <;> rfl),by repeat (first|(with_reducible first|exact HB.out|apply below_alloc|apply pw_below_drewN|apply below_drew1|refine below_set ?_ GE186.out)|exact HB.out)⟩
     ·rw [if_neg c4] at H
      exact absurd H (by simp)
    ·rw [if_neg c3] at H
     exact absurd H (by simp)
   ·rw [if_neg c2] at H
    have c2b0:decide (x7_1<(l0.length:Int))=false:=decide_eq_false c2
    clear c2
    obtain rfl:=Option.some.inj H
    go_wp2
    go_ret
    exact ⟨by first|rfl|(simp [errW_none,errW_some] <;> rfl)|(simp [*,errW_none,errW_some] <;> rfl),by repeat (first|(with_reducible first|exact HB.out|apply below_alloc|apply pw_below_drewN|apply below_drew1)|exact HB.out)⟩
end Go.Proofs.YtckjlckhjcbddaaGreat.PG3
