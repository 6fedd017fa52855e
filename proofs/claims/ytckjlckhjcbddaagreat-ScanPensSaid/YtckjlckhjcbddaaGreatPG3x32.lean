import Derived.Test.YtckjlckhjcbddaaGreatPG3x0
import Derived.Test.YtckjlckhjcbddaaGreatPG3x1
import Derived.Test.YtckjlckhjcbddaaGreatPG3x5
import Derived.Test.YtckjlckhjcbddaaGreatPG3x12
import Derived.Test.YtckjlckhjcbddaaGreatPG3x14
import Derived.Test.YtckjlckhjcbddaaGreatPG3x15
import Derived.Test.YtckjlckhjcbddaaGreatPG3x31
namespace Go.Proofs.YtckjlckhjcbddaaGreat.PG3
open Go.RowKit Go.Proofs.YtckjlckhjcbddaaGreatW.PrintWords Go.Proofs.YtckjlckhjcbddaaGreatW.PrintLast Go.Proofs.YtckjlckhjcbddaaGreatW.PrintMore
attribute [local go_sem] max2_int min2_int max_two min_two max_three min_three max_four min_four
set_option linter.unusedVariables false
set_option linter.unusedSimpArgs false
attribute [local go_sem high] eqA23
def fleuronlaw19_ScanPens.P (k:Nat) (l0 l1:List S47) (x0 y0:Int):Prop:=fleuronlaw19_few.f k 70 [l0]=some false∨(fleuronlaw19_few.f k 70 [l0]=some true∧(fleuronlaw19_few.f k 40 [l1]=some false∨(fleuronlaw19_few.f k 40 [l1]=some true∧∃ s e,scan_Pen.f k l0 l1 x0 y0=some (s,e)∧fleuronref19_Pen.f k l0 l1 x0 y0=some (s,e)∧fleuronref19_Same.f k s s=some true)))
set_option maxHeartbeats 8000000 in
set_option maxRecDepth 100000 in
theorem fleuronlaw19_ScanPens.calls (k:Nat) (A0:Option Addr) (c0:Nat) (l0:List S47) (A1:Option Addr) (c1:Nat) (l1:List S47) (x0 y0:Int) (w:World) (hr0:Kd.C k47 w A0 l0.length l0) (hc0:l0.length≤c0) (hr1:Kd.C k47 w A1 l1.length l1) (hc1:l1.length≤c1) (h:fleuronlaw19_ScanPens.P k l0 l1 x0 y0) :
  Calls Tryz.prog 4 #[.slice A0 l0.length c0,.slice A1 l1.length c1,.agg #[.int .i64 x0,.int .i64 y0]] w fun e w'=>e = .returned (.bool true)∧Below w.heap.size w w':=by
 have hu:=Tryz.underlying47
 have hux:=Tryz.underlying23
 have Hl0:=aK hr0
 have HC0:=aK hc0
 clear hr0 hc0
 have Hl1:=aK hr1
 have HC1:=aK hc1
 clear hr1 hc1
 have HB:=aK (Below.refl w.heap.size w)
 have Nl0:=aK (Kd.C_below Hl0.out (below_alloc (Below.refl _ _) (.cells #[.int .i64 x0,.int .i64 y0] 23)))
 clear Hl0
 have Hl0:=Nl0
 clear Nl0
 have Nl1:=aK (Kd.C_below Hl1.out (below_alloc (Below.refl _ _) (.cells #[.int .i64 x0,.int .i64 y0] 23)))
 clear Hl1
 have Hl1:=Nl1
 clear Nl1
 have NB_:=aK (below_step HB.out (below_alloc (Below.refl _ _) (.cells #[.int .i64 x0,.int .i64 y0] 23)))
 clear HB
 have HB:=NB_
 clear NB_
 have h_:=blk_new w (.cells #[.int .i64 x0,.int .i64 y0] 23)
 try simp only [World.size_alloc] at h_
 have Bs:=aK h_
 clear h_
 have h_:=oneP_row (W:=(w.alloc (.cells #[.int .i64 x0,.int .i64 y0] 23))) Hl0.out HC0.out 34
 try simp only [World.size_alloc] at h_
 have Hq0:=aK h_
 clear h_
 have Nl0:=aK (Kd.C_below Hl0.out (below_alloc (Below.refl _ _) (.cells #[.slice A0 l0.length c0] 34)))
 clear Hl0
 have Hl0:=Nl0
 clear Nl0
 have Nl1:=aK (Kd.C_below Hl1.out (below_alloc (Below.refl _ _) (.cells #[.slice A0 l0.length c0] 34)))
 clear Hl1
 have Hl1:=Nl1
 clear Nl1
 have Ns:=aK (blk_below Bs.out (below_alloc (Below.refl _ _) (.cells #[.slice A0 l0.length c0] 34)))
 clear Bs
 have Bs:=Ns
 clear Ns
 have NB_:=aK (below_step HB.out (below_alloc (Below.refl _ _) (.cells #[.slice A0 l0.length c0] 34)))
 clear HB
 have HB:=NB_
 clear NB_
 go_enter Tryz.func4,Tryz.ntmps4
 rcases h with h|⟨hf,h|⟨hf2,s,e,h1,h2,h3⟩⟩
 ·have HF:=aK h
  clear h
  go_wp2_with fail
  refine (fleuronlaw19_few.calls k _ _ 1 [l0] false _ Hq0.out (by simp) HF.out).mono ?_
  rintro e W1 ⟨rfl,hb⟩
  replace hb:=hb.below
  have Nl0:=aK (Kd.C_below Hl0.out hb)
  clear Hl0
  have Hl0:=Nl0
  clear Nl0
  have Nl1:=aK (Kd.C_below Hl1.out hb)
  clear Hl1
  have Hl1:=Nl1
  clear Nl1
  have Nq0:=aK (Kd.C_below Hq0.out hb)
  clear Hq0
  have Hq0:=Nq0
  clear Nq0
  have Ns:=aK (blk_below Bs.out hb)
  clear Bs
  have Bs:=Ns
  clear Ns
  have NB_:=aK (below_step HB.out hb)
  clear HB
  have HB:=NB_
  clear NB_
  clear hb
  go_wp2_with fail
  ((with_reducible refine (fleuronlaw19_awake.calls true _ rfl).mono ?_);rintro e W2 ⟨rfl,hb⟩)
  have Nl0:=aK (Kd.C_below Hl0.out hb)
  clear Hl0
  have Hl0:=Nl0
  clear Nl0
  have Nl1:=aK (Kd.C_below Hl1.out hb)
  clear Hl1
  have Hl1:=Nl1
  clear Nl1
  have Nq0:=aK (Kd.C_below Hq0.out hb)
  clear Hq0
  have Hq0:=Nq0
  clear Nq0
  have Ns:=aK (blk_below Bs.out hb)
  clear Bs
  have Bs:=Ns
  clear Ns
  have NB_:=aK (below_step HB.out hb)
  clear HB
  have HB:=NB_
  clear NB_
  clear hb
  go_wp2
  go_ret
  exact ⟨rfl,HB.out⟩
 ·have HF:=aK hf
  have HF2:=aK h
  clear hf h
  go_wp2_with fail
  refine (fleuronlaw19_few.calls k _ _ 1 [l0] true _ Hq0.out (by simp) HF.out).mono ?_
  rintro e W1 ⟨rfl,hb⟩
  replace hb:=hb.below
  have Nl0:=aK (Kd.C_below Hl0.out hb)
  clear Hl0
  have Hl0:=Nl0
  clear Nl0
  have Nl1:=aK (Kd.C_below Hl1.out hb)
  clear Hl1
  have Hl1:=Nl1
  clear Nl1
  have Nq0:=aK (Kd.C_below Hq0.out hb)
  clear Hq0
  have Hq0:=Nq0
  clear Nq0
  have Ns:=aK (blk_below Bs.out hb)
  clear Bs
  have Bs:=Ns
  clear Ns
  have NB_:=aK (below_step HB.out hb)
  clear HB
  have HB:=NB_
  clear NB_
  clear hb
  clear Hq0
  have h_:=oneP_row (W:=W1) Hl1.out HC1.out 34
  try simp only [World.size_alloc] at h_
  have Hq1:=aK h_
  clear h_
  have Nl0:=aK (Kd.C_below Hl0.out (below_alloc (Below.refl _ _) (.cells #[.slice A1 l1.length c1] 34)))
  clear Hl0
  have Hl0:=Nl0
  clear Nl0
  have Nl1:=aK (Kd.C_below Hl1.out (below_alloc (Below.refl _ _) (.cells #[.slice A1 l1.length c1] 34)))
  clear Hl1
  have Hl1:=Nl1
  clear Nl1
  have Ns:=aK (blk_below Bs.out (below_alloc (Below.refl _ _) (.cells #[.slice A1 l1.length c1] 34)))
  clear Bs
  have Bs:=Ns
  clear Ns
  have NB_:=aK (below_step HB.out (below_alloc (Below.refl _ _) (.cells #[.slice A1 l1.length c1] 34)))
  clear HB
  have HB:=NB_
  clear NB_
  go_wp2_with fail
  refine (fleuronlaw19_few.calls k _ _ 1 [l1] false _ Hq1.out (by simp) HF2.out).mono ?_
  rintro e W2 ⟨rfl,hb⟩
  replace hb:=hb.below
  have Nl0:=aK (Kd.C_below Hl0.out hb)
  clear Hl0
  have Hl0:=Nl0
  clear Nl0
  have Nl1:=aK (Kd.C_below Hl1.out hb)
  clear Hl1
  have Hl1:=Nl1
  clear Nl1
  have Nq1:=aK (Kd.C_below Hq1.out hb)
  clear Hq1
  have Hq1:=Nq1
  clear Nq1
  have Ns:=aK (blk_below Bs.out hb)
  clear Bs
  have Bs:=Ns
  clear Ns
  have NB_:=aK (below_step HB.out hb)
  clear HB
  have HB:=NB_
  clear NB_
  clear hb
  clear Hq1
  go_wp2_with fail
  ((with_reducible refine (fleuronlaw19_awake.calls true _ rfl).mono ?_);rintro e W3 ⟨rfl,hb⟩)
  have Nl0:=aK (Kd.C_below Hl0.out hb)
  clear Hl0
  have Hl0:=Nl0
  clear Nl0
  have Nl1:=aK (Kd.C_below Hl1.out hb)
  clear Hl1
  have Hl1:=Nl1
  clear Nl1
  have Ns:=aK (blk_below Bs.out hb)
  clear Bs
  have Bs:=Ns
  clear Ns
  have NB_:=aK (below_step HB.out hb)
  clear HB
  have HB:=NB_
  clear NB_
  clear hb
  go_wp2
  go_ret
  exact ⟨rfl,HB.out⟩
 ·have HF:=aK hf
  have HF2:=aK hf2
  have H1:=aK h1
  have H2:=aK h2
  have H3:=aK h3
  clear hf hf2 h1 h2 h3
  go_wp2_with fail
  refine (fleuronlaw19_few.calls k _ _ 1 [l0] true _ Hq0.out (by simp) HF.out).mono ?_
  rintro e W1 ⟨rfl,hb⟩
  replace hb:=hb.below
  have Nl0:=aK (Kd.C_below Hl0.out hb)
  clear Hl0
  have Hl0:=Nl0
  clear Nl0
  have Nl1:=aK (Kd.C_below Hl1.out hb)
  clear Hl1
  have Hl1:=Nl1
  clear Nl1
  have Nq0:=aK (Kd.C_below Hq0.out hb)
  clear Hq0
  have Hq0:=Nq0
  clear Nq0
  have Ns:=aK (blk_below Bs.out hb)
  clear Bs
  have Bs:=Ns
  clear Ns
  have NB_:=aK (below_step HB.out hb)
  clear HB
  have HB:=NB_
  clear NB_
  clear hb
  clear Hq0
  have h_:=oneP_row (W:=W1) Hl1.out HC1.out 34
  try simp only [World.size_alloc] at h_
  have Hq1:=aK h_
  clear h_
  have Nl0:=aK (Kd.C_below Hl0.out (below_alloc (Below.refl _ _) (.cells #[.slice A1 l1.length c1] 34)))
  clear Hl0
  have Hl0:=Nl0
  clear Nl0
  have Nl1:=aK (Kd.C_below Hl1.out (below_alloc (Below.refl _ _) (.cells #[.slice A1 l1.length c1] 34)))
  clear Hl1
  have Hl1:=Nl1
  clear Nl1
  have Ns:=aK (blk_below Bs.out (below_alloc (Below.refl _ _) (.cells #[.slice A1 l1.length c1] 34)))
  clear Bs
  have Bs:=Ns
  clear Ns
  have NB_:=aK (below_step HB.out (below_alloc (Below.refl _ _) (.cells #[.slice A1 l1.length c1] 34)))
  clear HB
  have HB:=NB_
  clear NB_
  go_wp2_with fail
  refine (fleuronlaw19_few.calls k _ _ 1 [l1] true _ Hq1.out (by simp) HF2.out).mono ?_
  rintro e W2 ⟨rfl,hb⟩
  replace hb:=hb.below
  have Nl0:=aK (Kd.C_below Hl0.out hb)
  clear Hl0
  have Hl0:=Nl0
  clear Nl0
  have Nl1:=aK (Kd.C_below Hl1.out hb)
  clear Hl1
  have Hl1:=Nl1
  clear Nl1
  have Nq1:=aK (Kd.C_below Hq1.out hb)
  clear Hq1
  have Hq1:=Nq1
  clear Nq1
  have Ns:=aK (blk_below Bs.out hb)
  clear Bs
  have Bs:=Ns
  clear Ns
  have NB_:=aK (below_step HB.out hb)
  clear HB
  have HB:=NB_
  clear NB_
  clear hb
  clear Hq1
  have ps0:=(blk_cell Bs.out 0).trans rfl
  have ps1:=(blk_cell Bs.out 1).trans rfl
  go_wp2_with fail
  ((with_reducible refine (scan_Pen.calls k A0 c0 l0 A1 c1 l1 x0 y0 s e _ Hl0.out HC0.out Hl1.out HC1.out H1.out).mono ?_);rintro e W3 ⟨vp,rfl,hr,hb⟩)
  clear ps0
  clear ps1
  have Nl0:=aK (Kd.C_below Hl0.out hb)
  clear Hl0
  have Hl0:=Nl0
  clear Nl0
  have Nl1:=aK (Kd.C_below Hl1.out hb)
  clear Hl1
  have Hl1:=Nl1
  clear Nl1
  have Ns:=aK (blk_below Bs.out hb)
  clear Bs
  have Bs:=Ns
  clear Ns
  have NB_:=aK (below_step HB.out hb)
  clear HB
  have HB:=NB_
  clear NB_
  obtain ⟨Ap,cp,rfl,hcp,hC⟩:=Kd.R_reads hr
  have Hp:=aK hC
  clear hC hr hb
  have ps0:=(blk_cell Bs.out 0).trans rfl
  have ps1:=(blk_cell Bs.out 1).trans rfl
  go_wp2_with fail
  ((with_reducible refine (fleuronref19_Pen.calls k A0 c0 l0 A1 c1 l1 x0 y0 s e _ Hl0.out HC0.out Hl1.out HC1.out H2.out).mono ?_);rintro e W4 ⟨vq,rfl,hr,hb⟩)
  clear ps0
  clear ps1
  have Nl0:=aK (Kd.C_below Hl0.out hb)
  clear Hl0
  have Hl0:=Nl0
  clear Nl0
  have Nl1:=aK (Kd.C_below Hl1.out hb)
  clear Hl1
  have Hl1:=Nl1
  clear Nl1
  have Np:=aK (Kd.C_below Hp.out hb)
  clear Hp
  have Hp:=Np
  clear Np
  have Ns:=aK (blk_below Bs.out hb)
  clear Bs
  have Bs:=Ns
  clear Ns
  have NB_:=aK (below_step HB.out hb)
  clear HB
  have HB:=NB_
  clear NB_
  obtain ⟨Aq,cq,rfl,hcq,hC⟩:=Kd.R_reads hr
  have Hq:=aK hC
  clear hC hr hb
  go_wp2_with fail
  ((with_reducible refine (fleuronref19_Same.calls k _ _ s _ _ s true _ Hp.out hcp Hq.out hcq H3.out).mono ?_);rintro e W5 ⟨rfl,hb⟩)
  replace hb:=hb.below
  have Nl0:=aK (Kd.C_below Hl0.out hb)
  clear Hl0
  have Hl0:=Nl0
  clear Nl0
  have Nl1:=aK (Kd.C_below Hl1.out hb)
  clear Hl1
  have Hl1:=Nl1
  clear Nl1
  have Np:=aK (Kd.C_below Hp.out hb)
  clear Hp
  have Hp:=Np
  clear Np
  have Nq:=aK (Kd.C_below Hq.out hb)
  clear Hq
  have Hq:=Nq
  clear Nq
  have Ns:=aK (blk_below Bs.out hb)
  clear Bs
  have Bs:=Ns
  clear Ns
  have NB_:=aK (below_step HB.out hb)
  clear HB
  have HB:=NB_
  clear NB_
  clear hb
  go_wp2_with fail
  ((with_reducible refine (fleuronlaw19_awake.calls true _ rfl).mono ?_);rintro e W6 ⟨rfl,hb⟩)
  have Nl0:=aK (Kd.C_below Hl0.out hb)
  clear Hl0
  have Hl0:=Nl0
  clear Nl0
  have Nl1:=aK (Kd.C_below Hl1.out hb)
  clear Hl1
  have Hl1:=Nl1
  clear Nl1
  have Np:=aK (Kd.C_below Hp.out hb)
  clear Hp
  have Hp:=Np
  clear Np
  have Nq:=aK (Kd.C_below Hq.out hb)
  clear Hq
  have Hq:=Nq
  clear Nq
  have Ns:=aK (blk_below Bs.out hb)
  clear Bs
  have Bs:=Ns
  clear Ns
  have NB_:=aK (below_step HB.out hb)
  clear HB
  have HB:=NB_
  clear NB_
  clear hb
  go_wp2
  go_ret
  exact ⟨rfl,HB.out⟩
end Go.Proofs.YtckjlckhjcbddaaGreat.PG3
