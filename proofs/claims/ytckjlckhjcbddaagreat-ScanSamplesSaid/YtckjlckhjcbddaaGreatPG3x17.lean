import Derived.Test.YtckjlckhjcbddaaGreatPG3x0
namespace Go.Proofs.YtckjlckhjcbddaaGreat.PG3
open Go.RowKit Go.Proofs.YtckjlckhjcbddaaGreatW.PrintWords Go.Proofs.YtckjlckhjcbddaaGreatW.PrintLast Go.Proofs.YtckjlckhjcbddaaGreatW.PrintMore
attribute [local go_sem] max2_int min2_int max_two min_two max_three min_three max_four min_four
set_option linter.unusedVariables false
set_option linter.unusedSimpArgs false
def fleuronref19_Sample.f (a0:Int) (a1:Int):Option (Int×Int):=some (wrap64 ((wrap64 (a0*65536))+32768),wrap64 ((wrap64 (a1*65536))+32768))
set_option maxHeartbeats 8000000 in
set_option maxRecDepth 100000 in
theorem fleuronref19_Sample.calls (a0:Int) (a1:Int) (r1:Int) (r2:Int) (w:World) (h:fleuronref19_Sample.f a0 a1=some (r1,r2)) :
  Calls Tryz.prog 31 #[.int .i64 a0,.int .i64 a1] w fun e w'=>e = .returned (.agg #[.int .i64 r1,.int .i64 r2])∧Below w.heap.size w w':=by
 have hu47:=Tryz.underlying47
 have HB:=aK (Below.refl w.heap.size w)
 have H:(some (wrap64 ((wrap64 (a0*65536))+32768),wrap64 ((wrap64 (a1*65536))+32768)))=some (r1,r2):=h
 clear h
 simp only [Option.some.injEq,Prod.mk.injEq] at H
 obtain ⟨rfl,rfl⟩:=H
 go_enter Tryz.func31,Tryz.ntmps31
 go_wp2_with ((with_reducible refine gate_dst (N:=4) rfl ?_);refine box_event ?hg (N:=4) ?hd (cs:=#[.int .i64 0,.int .i64 0]) (t:=47) ?hr ?_;(case hd=>rfl);(case hg=>rfl);(case hr=>first|(go_simp;done)|(go_simp;rfl));intro gb191 hg w3 hbox hb;have n0_:=aK (below_step (by repeat (first|(with_reducible first|exact HB.out|apply below_alloc|apply pw_below_drewN|apply below_drew1)|exact HB.out)) hb);have n1_:=aK (hbox);have n2_:=aK ((by rw [hg];exact (below_size (by repeat (first|(with_reducible first|exact HB.out|apply below_alloc|apply pw_below_drewN|apply below_drew1)|exact HB.out))):w.heap.size≤gb191));have n3_:=n2_;clear HB;have HB:=n0_;have BK191:=n1_;have GW191:=n2_;have GE191:=n3_;clear n0_ n1_ n2_ n3_;clear hb hbox hg;have hcz4_0:w3.cell? ⟨gb191,0,none⟩=some (.int .i64 0):=(blk_cell BK191.out 0).trans rfl;have hcz4_1:w3.cell? ⟨gb191,1,none⟩=some (.int .i64 0):=(blk_cell BK191.out 1).trans rfl;have hfz4_0:=blk_frozen BK191.out 0;have hfz4_1:=blk_frozen BK191.out 1)
 refine bodyPost_ret (results_cell_row rfl _ _ gb191 47 #[.int .i64 (wrap64 ((wrap64 (a0*65536))+32768)),.int .i64 (wrap64 ((wrap64 (a1*65536))+32768))] (0,0) _ rfl (by (with_reducible repeat (first|refine blk_drewN ?_ _|refine blk_drew ?_|refine blk_alloc ?_ _));refine blk_put (cs:=#[.int .i64 (wrap64 ((wrap64 (a0*65536))+32768)),.int .i64 0]) ?_ 1 _ rfl;(with_reducible repeat (first|refine blk_drewN ?_ _|refine blk_drew ?_|refine blk_alloc ?_ _));refine blk_put (cs:=#[.int .i64 0,.int .i64 0]) ?_ 0 _ rfl;(with_reducible repeat (first|refine blk_drewN ?_ _|refine blk_drew ?_|refine blk_alloc ?_ _));exact BK191.out) Tryz.underlying47 rfl (by kernel_rfl)) rfl ?_
 exact ⟨by first|rfl|(simp [errW_none,errW_some] <;> rfl)|(simp [*,errW_none,errW_some] <;> rfl),by repeat (first|(with_reducible first|exact HB.out|apply below_alloc|apply pw_below_drewN|apply below_drew1|refine below_set ?_ GE191.out)|exact HB.out)⟩
end Go.Proofs.YtckjlckhjcbddaaGreat.PG3
