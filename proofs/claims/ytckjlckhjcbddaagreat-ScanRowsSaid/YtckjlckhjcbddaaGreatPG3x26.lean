import Derived.Test.YtckjlckhjcbddaaGreatPG3x0
import Derived.Test.YtckjlckhjcbddaaGreatPG3x1
import Derived.Test.YtckjlckhjcbddaaGreatPG3x5
import Derived.Test.YtckjlckhjcbddaaGreatPG3x12
import Derived.Test.YtckjlckhjcbddaaGreatPG3x13
import Derived.Test.YtckjlckhjcbddaaGreatPG3x14
import Derived.Test.YtckjlckhjcbddaaGreatPG3x15
import Derived.Test.YtckjlckhjcbddaaGreatPG3x24
import Derived.Test.YtckjlckhjcbddaaGreatPG3x25
namespace Go.Proofs.YtckjlckhjcbddaaGreat.PG3
open Go.RowKit Go.Proofs.YtckjlckhjcbddaaGreatW.PrintWords Go.Proofs.YtckjlckhjcbddaaGreatW.PrintLast Go.Proofs.YtckjlckhjcbddaaGreatW.PrintMore
attribute [local go_sem] max2_int min2_int max_two min_two max_three min_three max_four min_four
set_option linter.unusedVariables false
set_option linter.unusedSimpArgs false
attribute [local go_sem high] eqA23
def fleuronlaw19_ScanRows.P (k:Nat) (l0:List (List S47)) (b:Bool) (x0 y0:Int):Prop:=fleuronlaw19_few.f k 200 l0=some false∨(fleuronlaw19_few.f k 200 l0=some true∧∃ s e o0 o1 e2,scan_Row.f k l0 b x0 y0=some (s,e)∧fleuronref19_Row.f k l0 b x0 y0=some (s,e)∧scan_Rows.f k l0=some (o0,o1,e2)∧fleuronref19_Rows.f k l0=some (o0,o1,e2)∧fleuronref19_Same.f k s s=some true)
set_option maxHeartbeats 8000000 in
set_option maxRecDepth 100000 in
theorem fleuronlaw19_ScanRows.calls (k:Nat) (A0:Option Addr) (c0:Nat) (l0:List (List S47)) (b:Bool) (x0 y0:Int) (w:World) (hr0:Kd.C (Kd.slice 47 k47) w A0 l0.length l0) (hc0:l0.length≤c0) (h:fleuronlaw19_ScanRows.P k l0 b x0 y0) :
  Calls Tryz.prog 3 #[.slice A0 l0.length c0,.bool b,.agg #[.int .i64 x0,.int .i64 y0]] w fun e w'=>e = .returned (.bool true)∧Below w.heap.size w w':=by
 have hu:=Tryz.underlying47
 have hux:=Tryz.underlying23
 have Hl0:=aK hr0
 have HC0:=aK hc0
 clear hr0 hc0
 have HB:=aK (Below.refl w.heap.size w)
 have Nl0:=aK (Kd.C_below Hl0.out (below_alloc (Below.refl _ _) (.cells #[.int .i64 x0,.int .i64 y0] 23)))
 clear Hl0
 have Hl0:=Nl0
 clear Nl0
 have NB_:=aK (below_step HB.out (below_alloc (Below.refl _ _) (.cells #[.int .i64 x0,.int .i64 y0] 23)))
 clear HB
 have HB:=NB_
 clear NB_
 have h_:=blk_new w (.cells #[.int .i64 x0,.int .i64 y0] 23)
 try simp only [World.size_alloc] at h_
 have Bs:=aK h_
 clear h_
 go_enter Tryz.func3,Tryz.ntmps3
 rcases h with h|⟨hf,s,e,o0,o1,e2,h1,h2,h3,h4,h5⟩
 ·have HF:=aK h
  clear h
  go_wp2_with fail
  refine (fleuronlaw19_few.calls k 200 A0 c0 l0 false _ Hl0.out HC0.out HF.out).mono ?_
  rintro e W1 ⟨rfl,hb⟩
  replace hb:=hb.below
  have Nl0:=aK (Kd.C_below Hl0.out hb)
  clear Hl0
  have Hl0:=Nl0
  clear Nl0
  have Ns:=aK (blk_below Bs.out hb)
  clear Bs
  have Bs:=Ns
  clear Ns
  have NB_:=aK (below_step HB.out hb)
  clear HB
  have HB:=NB_
  clear NB_
  clear hb
  go_wp2_with fail
  ((with_reducible refine (fleuronlaw19_awake.calls true _ rfl).mono ?_);rintro e W2 ⟨rfl,hb⟩)
  have Nl0:=aK (Kd.C_below Hl0.out hb)
  clear Hl0
  have Hl0:=Nl0
  clear Nl0
  have Ns:=aK (blk_below Bs.out hb)
  clear Bs
  have Bs:=Ns
  clear Ns
  have NB_:=aK (below_step HB.out hb)
  clear HB
  have HB:=NB_
  clear NB_
  clear hb
  go_wp2
  go_ret
  exact ⟨rfl,HB.out⟩
 ·have HF:=aK hf
  have H1:=aK h1
  have H2:=aK h2
  have H3:=aK h3
  have H4:=aK h4
  have H5:=aK h5
  clear hf h1 h2 h3 h4 h5
  go_wp2_with fail
  refine (fleuronlaw19_few.calls k 200 A0 c0 l0 true _ Hl0.out HC0.out HF.out).mono ?_
  rintro e W1 ⟨rfl,hb⟩
  replace hb:=hb.below
  have Nl0:=aK (Kd.C_below Hl0.out hb)
  clear Hl0
  have Hl0:=Nl0
  clear Nl0
  have Ns:=aK (blk_below Bs.out hb)
  clear Bs
  have Bs:=Ns
  clear Ns
  have NB_:=aK (below_step HB.out hb)
  clear HB
  have HB:=NB_
  clear NB_
  clear hb
  have ps0:=(blk_cell Bs.out 0).trans rfl
  have ps1:=(blk_cell Bs.out 1).trans rfl
  go_wp2_with fail
  ((with_reducible refine (scan_Row.calls k A0 c0 l0 b x0 y0 s e _ Hl0.out HC0.out H1.out).mono ?_);rintro e W2 ⟨vp,rfl,hr,hb⟩)
  clear ps0
  clear ps1
  have Nl0:=aK (Kd.C_below Hl0.out hb)
  clear Hl0
  have Hl0:=Nl0
  clear Nl0
  have Ns:=aK (blk_below Bs.out hb)
  clear Bs
  have Bs:=Ns
  clear Ns
  have NB_:=aK (below_step HB.out hb)
  clear HB
  have HB:=NB_
  clear NB_
  obtain ⟨Ap,cp,rfl,hcp,hC⟩:=Kd.R_reads hr
  have Hp:=aK hC
  clear hC hr hb
  have ps0:=(blk_cell Bs.out 0).trans rfl
  have ps1:=(blk_cell Bs.out 1).trans rfl
  go_wp2_with fail
  ((with_reducible refine (fleuronref19_Row.calls k A0 c0 l0 b x0 y0 s e _ Hl0.out HC0.out H2.out).mono ?_);rintro e W3 ⟨vq,rfl,hr,hb⟩)
  clear ps0
  clear ps1
  have Nl0:=aK (Kd.C_below Hl0.out hb)
  clear Hl0
  have Hl0:=Nl0
  clear Nl0
  have Np:=aK (Kd.C_below Hp.out hb)
  clear Hp
  have Hp:=Np
  clear Np
  have Ns:=aK (blk_below Bs.out hb)
  clear Bs
  have Bs:=Ns
  clear Ns
  have NB_:=aK (below_step HB.out hb)
  clear HB
  have HB:=NB_
  clear NB_
  obtain ⟨Aq,cq,rfl,hcq,hC⟩:=Kd.R_reads hr
  have Hq:=aK hC
  clear hC hr hb
  clear Bs
  go_wp2_with fail
  ((with_reducible refine (scan_Rows.calls k A0 c0 l0 o0 o1 e2 _ Hl0.out HC0.out H3.out).mono ?_);rintro e W4 ⟨rfl,hb⟩)
  have Nl0:=aK (Kd.C_below Hl0.out hb)
  clear Hl0
  have Hl0:=Nl0
  clear Nl0
  have Np:=aK (Kd.C_below Hp.out hb)
  clear Hp
  have Hp:=Np
  clear Np
  have Nq:=aK (Kd.C_below Hq.out hb)
  clear Hq
  have Hq:=Nq
  clear Nq
  have NB_:=aK (below_step HB.out hb)
  clear HB
  have HB:=NB_
  clear NB_
  clear hb
  have Nl0:=aK (Kd.C_below Hl0.out (below_alloc (Below.refl _ _) (.cells #[.int .i64 o0,.int .i64 o1] 23)))
  clear Hl0
  have Hl0:=Nl0
  clear Nl0
  have Np:=aK (Kd.C_below Hp.out (below_alloc (Below.refl _ _) (.cells #[.int .i64 o0,.int .i64 o1] 23)))
  clear Hp
  have Hp:=Np
  clear Np
  have Nq:=aK (Kd.C_below Hq.out (below_alloc (Below.refl _ _) (.cells #[.int .i64 o0,.int .i64 o1] 23)))
  clear Hq
  have Hq:=Nq
  clear Nq
  have NB_:=aK (below_step HB.out (below_alloc (Below.refl _ _) (.cells #[.int .i64 o0,.int .i64 o1] 23)))
  clear HB
  have HB:=NB_
  clear NB_
  have h_:=blk_new W4 (.cells #[.int .i64 o0,.int .i64 o1] 23)
  have Bm1:=aK h_
  clear h_
  go_wp2_with fail
  ((with_reducible refine (fleuronref19_Rows.calls k A0 c0 l0 o0 o1 e2 _ Hl0.out HC0.out H4.out).mono ?_);rintro e W5 ⟨rfl,hb⟩)
  have Nl0:=aK (Kd.C_below Hl0.out hb)
  clear Hl0
  have Hl0:=Nl0
  clear Nl0
  have Np:=aK (Kd.C_below Hp.out hb)
  clear Hp
  have Hp:=Np
  clear Np
  have Nq:=aK (Kd.C_below Hq.out hb)
  clear Hq
  have Hq:=Nq
  clear Nq
  have Nm1:=aK (blk_below Bm1.out hb)
  clear Bm1
  have Bm1:=Nm1
  clear Nm1
  have NB_:=aK (below_step HB.out hb)
  clear HB
  have HB:=NB_
  clear NB_
  clear hb
  have Nl0:=aK (Kd.C_below Hl0.out (below_alloc (Below.refl _ _) (.cells #[.int .i64 o0,.int .i64 o1] 23)))
  clear Hl0
  have Hl0:=Nl0
  clear Nl0
  have Np:=aK (Kd.C_below Hp.out (below_alloc (Below.refl _ _) (.cells #[.int .i64 o0,.int .i64 o1] 23)))
  clear Hp
  have Hp:=Np
  clear Np
  have Nq:=aK (Kd.C_below Hq.out (below_alloc (Below.refl _ _) (.cells #[.int .i64 o0,.int .i64 o1] 23)))
  clear Hq
  have Hq:=Nq
  clear Nq
  have Nm1:=aK (blk_below Bm1.out (below_alloc (Below.refl _ _) (.cells #[.int .i64 o0,.int .i64 o1] 23)))
  clear Bm1
  have Bm1:=Nm1
  clear Nm1
  have NB_:=aK (below_step HB.out (below_alloc (Below.refl _ _) (.cells #[.int .i64 o0,.int .i64 o1] 23)))
  clear HB
  have HB:=NB_
  clear NB_
  have h_:=blk_new W5 (.cells #[.int .i64 o0,.int .i64 o1] 23)
  have Bm2:=aK h_
  clear h_
  have pm10:=(blk_cell Bm1.out 0).trans rfl
  have pm11:=(blk_cell Bm1.out 1).trans rfl
  have pm20:=(blk_cell Bm2.out 0).trans rfl
  have pm21:=(blk_cell Bm2.out 1).trans rfl
  go_wp2_with fail
  ((with_reducible refine (fleuronref19_Same.calls k _ _ s _ _ s true _ Hp.out hcp Hq.out hcq H5.out).mono ?_);rintro e W6 ⟨rfl,hb⟩)
  replace hb:=hb.below
  clear pm10
  clear pm11
  clear pm20
  clear pm21
  have Nl0:=aK (Kd.C_below Hl0.out hb)
  clear Hl0
  have Hl0:=Nl0
  clear Nl0
  have Np:=aK (Kd.C_below Hp.out hb)
  clear Hp
  have Hp:=Np
  clear Np
  have Nq:=aK (Kd.C_below Hq.out hb)
  clear Hq
  have Hq:=Nq
  clear Nq
  have Nm1:=aK (blk_below Bm1.out hb)
  clear Bm1
  have Bm1:=Nm1
  clear Nm1
  have Nm2:=aK (blk_below Bm2.out hb)
  clear Bm2
  have Bm2:=Nm2
  clear Nm2
  have NB_:=aK (below_step HB.out hb)
  clear HB
  have HB:=NB_
  clear NB_
  clear hb
  have pm10:=(blk_cell Bm1.out 0).trans rfl
  have pm11:=(blk_cell Bm1.out 1).trans rfl
  have pm20:=(blk_cell Bm2.out 0).trans rfl
  have pm21:=(blk_cell Bm2.out 1).trans rfl
  go_wp2_with fail
  ((with_reducible refine (fleuronlaw19_awake.calls true _ rfl).mono ?_);rintro e W7 ⟨rfl,hb⟩)
  clear pm10
  clear pm11
  clear pm20
  clear pm21
  have Nl0:=aK (Kd.C_below Hl0.out hb)
  clear Hl0
  have Hl0:=Nl0
  clear Nl0
  have Np:=aK (Kd.C_below Hp.out hb)
  clear Hp
  have Hp:=Np
  clear Np
  have Nq:=aK (Kd.C_below Hq.out hb)
  clear Hq
  have Hq:=Nq
  clear Nq
  have Nm1:=aK (blk_below Bm1.out hb)
  clear Bm1
  have Bm1:=Nm1
  clear Nm1
  have Nm2:=aK (blk_below Bm2.out hb)
  clear Bm2
  have Bm2:=Nm2
  clear Nm2
  have NB_:=aK (below_step HB.out hb)
  clear HB
  have HB:=NB_
  clear NB_
  clear hb
  go_wp2
  go_ret
  exact ⟨rfl,HB.out⟩
end Go.Proofs.YtckjlckhjcbddaaGreat.PG3
