import Derived.Test.YtoemkemmiikhlaaPC2x0
import Derived.Test.YtoemkemmiikhlaaPC2x1
import Derived.Test.YtoemkemmiikhlaaPC2x2
import Derived.Test.YtoemkemmiikhlaaPC2x3
import Derived.Test.YtoemkemmiikhlaaPC2x5
import Derived.Test.YtoemkemmiikhlaaPC2x10
import Derived.Test.YtoemkemmiikhlaaPC2x11
import Derived.Test.YtoemkemmiikhlaaPC2x13
import Derived.Test.YtoemkemmiikhlaaPC2x14
import Derived.Test.YtoemkemmiikhlaaPC2x15
import Derived.Test.YtoemkemmiikhlaaPC2x18
namespace Go.Proofs.Ytoemkemmiikhlaa.PC2
open Go.RowKit Go.Proofs.YtoemkemmiikhlaaW.PrintWords Go.Proofs.YtoemkemmiikhlaaW.PrintLast Go.Proofs.YtoemkemmiikhlaaW.PrintMore
attribute [local go_sem] max2_int min2_int max_two min_two max_three min_three max_four min_four
set_option linter.unusedVariables false
set_option linter.unusedSimpArgs false
attribute [local go_sem high] eqA41 eqA46
theorem lit2_M {W : World} {b : Nat} {x y : S25} {A1 A2 B1 B2 : Option Addr} {c1 c2 d1 d2 : Nat} (h1 : Kd.C k41 W A1 x.f1.length x.f1) (l1 : x.f1.length ≤ c1) (h2 : Kd.C k46 W A2 x.f2.length x.f2) (l2 : x.f2.length ≤ c2) (h3 : Kd.C k41 W B1 y.f1.length y.f1) (l3 : y.f1.length ≤ d1) (h4 : Kd.C k46 W B2 y.f2.length y.f2) (l4 : y.f2.length ≤ d2)
  (hb:W.heap[b]?=some (.cells #[.int .i64 x.f0,.slice A1 x.f1.length c1,.slice A2 x.f2.length c2,.int .i64 y.f0,.slice B1 y.f1.length d1,.slice B2 y.f2.length d2] 25 (0,0))):Kd.C k25 W (some ⟨b,0,none⟩) 2 [x,y]:=by
 refine ⟨rfl,by decide,fun _=>⟨⟨b,0,none⟩,rfl,fun j p hj=>?_⟩⟩
 rcases j with _|j
 ·obtain rfl:x=p:=by simpa using hj
  refine ⟨_,rfl,k25_mk W x l1 h1 l2 h2,fun i u hu=>?_⟩
  rw [add_plain,Nat.zero_mul,Nat.zero_add,blk_cell hb i]
  rcases i with _|_|_|i <;> first|exact hu|(simp at hu)
 ·rcases j with _|j
  ·obtain rfl:y=p:=by simpa using hj
   refine ⟨_,rfl,k25_mk W y l3 h3 l4 h4,fun i u hu=>?_⟩
   rw [add_plain,blk_cell hb]
   rcases i with _|_|_|i <;> first|exact hu|(simp at hu)
  ·simp at hj
structure BoI (w W:World) (b5:Nat) (X1:Int) (A5:Option Addr) (c5:Nat) (X2:List S41) (A6:Option Addr) (c6:Nat) (X3:List S46):Prop where
 bm:W.heap[b5]?=some (.cells #[.int .i64 X1,.slice A5 X2.length c5,.slice A6 X3.length c6] 25 (0,0))
 rc:Kd.C k41 W A5 X2.length X2
 lc:X2.length≤c5
 rr:Kd.C k46 W A6 X3.length X3
 lr:X3.length≤c6
 below:Below w.heap.size w W
theorem BoI.ofBelow {w W W':World} {b5:Nat} {X1:Int} {A5:Option Addr} {c5:Nat} {X2:List S41} {A6:Option Addr} {c6:Nat} {X3:List S46} (h:BoI w W b5 X1 A5 c5 X2 A6 c6 X3) (hb:Below W.heap.size W W'):BoI w W' b5 X1 A5 c5 X2 A6 c6 X3 :=
 ⟨blk_below h.bm hb,Kd.C_below h.rc hb,h.lc,Kd.C_below h.rr hb,h.lr,below_step h.below hb⟩
def bothP (k:Nat) (sz:Int) (cs:List S41) (rs:List S46) (sz2:Int) (cs2:List S41) (rs2:List S46) (X1:Int) (X2:List S41) (X3:List S46) (e:Int):Prop :=
 X2.length≤1000∧X3.length≤1000∧fleuronref27_Same.f k X1 X2 X3 X1 X2 X3=some true∧((e≠0∧X2=[])∨(e=0∧X2.length=cs.length+cs2.length∧X3.length=rs.length+rs2.length∧(∀ c,(c∈cs∨c∈cs2)→findM X1 X2 X3 c.f0=(c,0))∧(∀ r,(r∈rs∨r∈rs2)→ruleM X1 X2 X3 r.f0 r.f1=(r,0))∧validM X1 X2 X3=true))
def fleuronlaw27_MetricBoth.P (k:Nat) (sz:Int) (cs:List S41) (rs:List S46) (sz2:Int) (cs2:List S41) (rs2:List S46):Prop :=
 fleuronlaw27_few.f k [⟨sz, cs, rs⟩, ⟨sz2, cs2, rs2⟩] = some false ∨ (fleuronlaw27_few.f k [⟨sz, cs, rs⟩, ⟨sz2, cs2, rs2⟩] = some true ∧ (cs.length ≤ 1000 ∧ rs.length ≤ 1000 ∧ cs2.length ≤ 1000 ∧ rs2.length ≤ 1000) ∧ (∃ c3 r3, (c3.Perm (cs ++ cs2) ∧ RiseC c3) ∧ (r3.Perm (rs ++ rs2) ∧ RiseR r3)) ∧ (∃ c3 r3, (c3.Perm (cs2 ++ cs) ∧ RiseC c3) ∧ (r3.Perm (rs2 ++ rs) ∧ RiseR r3)) ∧
  ∀ c3 r3 c4 r4,(c3.Perm (cs++cs2)∧RiseC c3)→(r3.Perm (rs++rs2)∧RiseR r3)→(c4.Perm (cs2++cs)∧RiseC c4)→(r4.Perm (rs2++rs)∧RiseR r4)→mergeE sz2 cs2 rs2 sz cs rs c4 r4=mergeE sz cs rs sz2 cs2 rs2 c3 r3∧bothP k sz cs rs sz2 cs2 rs2 (mergeE sz cs rs sz2 cs2 rs2 c3 r3).1 (mergeE sz cs rs sz2 cs2 rs2 c3 r3).2.1 (mergeE sz cs rs sz2 cs2 rs2 c3 r3).2.2.1 (mergeE sz cs rs sz2 cs2 rs2 c3 r3).2.2.2)
set_option maxHeartbeats 16000000 in
set_option maxRecDepth 100000 in
theorem fleuronlaw27_MetricBoth.calls (k : Nat) (sz : Int) (A1 : Option Addr) (c1 : Nat) (cs : List S41) (A2 : Option Addr) (c2 : Nat) (rs : List S46) (sz2 : Int) (B1 : Option Addr) (d1 : Nat) (cs2 : List S41) (B2 : Option Addr) (d2 : Nat) (rs2 : List S46) (w : World) (hr1 : Kd.C k41 w A1 cs.length cs) (hc1 : cs.length ≤ c1) (hr2 : Kd.C k46 w A2 rs.length rs) (hc2 : rs.length ≤ c2) (hr3 : Kd.C k41 w B1 cs2.length cs2) (hc3 : cs2.length ≤ d1) (hr4 : Kd.C k46 w B2 rs2.length rs2) (hc4 : rs2.length ≤ d2) (h : fleuronlaw27_MetricBoth.P k sz cs rs sz2 cs2 rs2) :
  Calls Try.prog 4 #[.agg #[.int .i64 sz,.slice A1 cs.length c1,.slice A2 rs.length c2],.agg #[.int .i64 sz2,.slice B1 cs2.length d1,.slice B2 rs2.length d2]] w fun e w'=>e = .returned (.bool true)∧Below w.heap.size w w':=by
 have hu:=Try.underlying25
 have hu50:=Try.underlying41
 have hu45:=Try.underlying46
 have HR1:=aK hr1
 have HR2:=aK hr2
 have HR3:=aK hr3
 have HR4:=aK hr4
 have HC1:=aK hc1
 have HC2:=aK hc2
 have HC3:=aK hc3
 have HC4:=aK hc4
 obtain ⟨b1,hb1⟩ : ∃ b1,b1=w.heap.size:=⟨_,rfl⟩
 obtain ⟨b2,hb2⟩ : ∃ b2,b2=w.heap.size+1:=⟨_,rfl⟩
 have HB:=aK (below_alloc (below_alloc (Below.refl w.heap.size w) (.cells #[.int .i64 sz,.slice A1 cs.length c1,.slice A2 rs.length c2] 25)) (.cells #[.int .i64 sz2,.slice B1 cs2.length d1,.slice B2 rs2.length d2] 25))
 have hbm:=blk_alloc (blk_new w (.cells #[.int .i64 sz,.slice A1 cs.length c1,.slice A2 rs.length c2] 25)) (.cells #[.int .i64 sz2,.slice B1 cs2.length d1,.slice B2 rs2.length d2] 25)
 have hbn:=blk_new (w.alloc (.cells #[.int .i64 sz,.slice A1 cs.length c1,.slice A2 rs.length c2] 25)) (.cells #[.int .i64 sz2,.slice B1 cs2.length d1,.slice B2 rs2.length d2] 25)
 simp only [World.size_alloc] at hbn
 rw [← hb1] at hbm
 rw [← hb2] at hbn
 have HM:=aK hbm
 have HN:=aK hbn
 have HBE:=aK (And.intro hb1 hb2)
 have H:=aK h
 clear hr1 hr2 hr3 hr4 hc1 hc2 hc3 hc4 hbm hbn hb1 hb2 h
 go_enter Try.func4,Try.ntmps4
 go_upto_region 1 with (fail)
 rw [← HBE.out.2,← HBE.out.1]
 generalize (w.alloc (.cells #[.int .i64 sz,.slice A1 cs.length c1,.slice A2 rs.length c2] 25)).alloc (.cells #[.int .i64 sz2,.slice B1 cs2.length d1,.slice B2 rs2.length d2] 25)=V at *
 have p0:=(blk_cell HM.out 0).trans rfl
 have p1:=(blk_cell HM.out 1).trans rfl
 have p2:=(blk_cell HM.out 2).trans rfl
 have q0:=(blk_cell HN.out 0).trans rfl
 have q1:=(blk_cell HN.out 1).trans rfl
 have q2:=(blk_cell HN.out 2).trans rfl
 have HB1:=aK (below_alloc HB.out (.cells #[.int .i64 sz,.slice A1 cs.length c1,.slice A2 rs.length c2,.int .i64 sz2,.slice B1 cs2.length d1,.slice B2 rs2.length d2] 25))
 have HM1:=aK (blk_alloc HM.out (.cells #[.int .i64 sz,.slice A1 cs.length c1,.slice A2 rs.length c2,.int .i64 sz2,.slice B1 cs2.length d1,.slice B2 rs2.length d2] 25))
 have HN1:=aK (blk_alloc HN.out (.cells #[.int .i64 sz,.slice A1 cs.length c1,.slice A2 rs.length c2,.int .i64 sz2,.slice B1 cs2.length d1,.slice B2 rs2.length d2] 25))
 have HF:Aside0 (Kd.C k25 (V.alloc (.cells #[.int .i64 sz,.slice A1 cs.length c1,.slice A2 rs.length c2,.int .i64 sz2,.slice B1 cs2.length d1,.slice B2 rs2.length d2] 25)) (some ⟨V.heap.size,0,none⟩) 2 [⟨sz,cs,rs⟩,⟨sz2,cs2,rs2⟩]):=⟨lit2_M (x:=⟨sz,cs,rs⟩) (y:=⟨sz2,cs2,rs2⟩) (Kd.C_below HR1.out HB1.out) HC1.out (Kd.C_below HR2.out HB1.out) HC2.out (Kd.C_below HR3.out HB1.out) HC3.out (Kd.C_below HR4.out HB1.out) HC4.out (blk_new V (.cells #[.int .i64 sz,.slice A1 cs.length c1,.slice A2 rs.length c2,.int .i64 sz2,.slice B1 cs2.length d1,.slice B2 rs2.length d2] 25))⟩
 rcases H.out with hf|⟨hf,hl,hx1,hx2,h⟩
 ·have hc:=fleuronlaw27_few.calls k _ 2 [⟨sz,cs,rs⟩,⟨sz2,cs2,rs2⟩] false _ HF.out (Nat.le_refl 2) hf
  clear hf H
  go_wp2_with fail
  refine hc.mono ?_
  clear hc p0 p1 p2 q0 q1 q2
  rintro e W1 ⟨rfl,hb⟩
  have HB2:=aK (below_step HB1.out hb)
  clear hb HB
  have HB:=HB2
  go_wp2_with fail
  refine (fleuronlaw27_awake.calls true _ rfl).mono ?_
  rintro e WZ ⟨rfl,hbz⟩
  go_wp2
  go_ret
  exact ⟨rfl,below_step HB.out hbz⟩
 have hc:=fleuronlaw27_few.calls k _ 2 [⟨sz,cs,rs⟩,⟨sz2,cs2,rs2⟩] true _ HF.out (Nat.le_refl 2) hf
 have H:=aK h
 have HL:=aK hl
 have HX1:=aK hx1
 have HX2:=aK hx2
 clear hf h hl hx1 hx2
 go_wp2_with fail
 refine hc.mono ?_
 clear hc p0 p1 p2 q0 q1 q2
 rintro e W1 ⟨rfl,hb⟩
 have HB2:=aK (below_step HB1.out hb)
 have HM2:=aK (blk_below HM1.out hb)
 have HN2:=aK (blk_below HN1.out hb)
 clear hb HB1 HM1 HN1 HB HM HN HF
 have p0:=(blk_cell HM2.out 0).trans rfl
 have p1:=(blk_cell HM2.out 1).trans rfl
 have p2:=(blk_cell HM2.out 2).trans rfl
 have q0:=(blk_cell HN2.out 0).trans rfl
 have q1:=(blk_cell HN2.out 1).trans rfl
 have q2:=(blk_cell HN2.out 2).trans rfl
 have hc:=merge_calls sz A1 c1 cs A2 c2 rs sz2 B1 d1 cs2 B2 d2 rs2 W1 (Kd.C_below HR1.out HB2.out) HC1.out (Kd.C_below HR2.out HB2.out) HC2.out (Kd.C_below HR3.out HB2.out) HC3.out (Kd.C_below HR4.out HB2.out) HC4.out (by have:=HL.out;omega) (by have:=HL.out;omega) (by have:=HL.out;omega) (by have:=HL.out;omega) HX1.out
 go_wp2_with fail
 refine hc.mono ?_
 clear hc p0 p1 p2 q0 q1 q2
 rintro e W2 ⟨c3,r3,v1,v2,rfl,hp1,hp2,hr5,hr6,hb⟩
 obtain ⟨A5,c5,hv5⟩:=Kd.R_slice hr5
 obtain ⟨A6,c6,hv6⟩:=Kd.R_slice hr6
 subst hv5 hv6
 have hbp:bothP k sz cs rs sz2 cs2 rs2 (mergeE sz cs rs sz2 cs2 rs2 c3 r3).1 (mergeE sz cs rs sz2 cs2 rs2 c3 r3).2.1 (mergeE sz cs rs sz2 cs2 rs2 c3 r3).2.2.1 (mergeE sz cs rs sz2 cs2 rs2 c3 r3).2.2.2:=by
  obtain ⟨c4,r4,k1,k2⟩:=HX2.out
  exact (H.out c3 r3 c4 r4 hp1 hp2 k1 k2).2
 have HMG:Aside0 (∀ c4 r4,(c4.Perm (cs2++cs)∧RiseC c4)→(r4.Perm (rs2++rs)∧RiseR r4)→mergeE sz2 cs2 rs2 sz cs rs c4 r4=mergeE sz cs rs sz2 cs2 rs2 c3 r3):=⟨fun c4 r4 k1 k2=>(H.out c3 r3 c4 r4 hp1 hp2 k1 k2).1⟩
 generalize mergeE sz cs rs sz2 cs2 rs2 c3 r3=X at *
 obtain ⟨X1,X2,X3,X4⟩:=X
 simp only at hr5 hr6 hbp
 have HBP:=aK hbp
 have hq5:=Kd.R_reads' hr5
 have hq6:=Kd.R_reads' hr6
 have hbw:=below_step HB2.out hb
 have I3:Aside0 (BoI w (W2.alloc (.cells #[.int .i64 X1,.slice A5 X2.length c5,.slice A6 X3.length c6] 25)) W2.heap.size X1 A5 c5 X2 A6 c6 X3):=⟨⟨blk_new W2 _,Kd.C_alloc hq5.2.2 _,hq5.2.1,Kd.C_alloc hq6.2.2 _,hq6.2.1,below_alloc hbw _⟩⟩
 have HM3:=aK (blk_alloc (blk_below HM2.out hb) (.cells #[.int .i64 X1,.slice A5 X2.length c5,.slice A6 X3.length c6] 25))
 have HN3:=aK (blk_alloc (blk_below HN2.out hb) (.cells #[.int .i64 X1,.slice A5 X2.length c5,.slice A6 X3.length c6] 25))
 clear hr5 hr6 hbp hq5 hq6 hbw hb HB2 HM2 HN2 H hp1 hp2 HX1
 go_upto_region 4 with (fail)
 generalize W2.heap.size=b5 at *
 generalize W2.alloc (.cells #[.int .i64 X1,.slice A5 X2.length c5,.slice A6 X3.length c6] 25)=W3 at *
 have p0:=(blk_cell HM3.out 0).trans rfl
 have p1:=(blk_cell HM3.out 1).trans rfl
 have p2:=(blk_cell HM3.out 2).trans rfl
 have q0:=(blk_cell HN3.out 0).trans rfl
 have q1:=(blk_cell HN3.out 1).trans rfl
 have q2:=(blk_cell HN3.out 2).trans rfl
 have hc:=merge_calls sz2 B1 d1 cs2 B2 d2 rs2 sz A1 c1 cs A2 c2 rs W3 (Kd.C_below HR3.out I3.out.below) HC3.out (Kd.C_below HR4.out I3.out.below) HC4.out (Kd.C_below HR1.out I3.out.below) HC1.out (Kd.C_below HR2.out I3.out.below) HC2.out (by have:=HL.out;omega) (by have:=HL.out;omega) (by have:=HL.out;omega) (by have:=HL.out;omega) HX2.out
 go_wp2_with fail
 refine hc.mono ?_
 clear hc p0 p1 p2 q0 q1 q2
 rintro e W4 ⟨c4,r4,v1,v2,rfl,hp1,hp2,hr5,hr6,hb⟩
 rw [HMG.out c4 r4 hp1 hp2] at hr5 hr6 ⊢
 simp only at hr5 hr6
 obtain ⟨A7,c7,hv5⟩:=Kd.R_slice hr5
 obtain ⟨A8,c8,hv6⟩:=Kd.R_slice hr6
 subst hv5 hv6
 have hq5:=Kd.R_reads' hr5
 have hq6:=Kd.R_reads' hr6
 have I4:=aK ((I3.out.ofBelow hb).ofBelow (below_alloc (Below.refl _ _) (.cells #[.int .i64 X1,.slice A7 X2.length c7,.slice A8 X3.length c8] 25)))
 have HM4:=aK (blk_alloc (blk_below HM3.out hb) (.cells #[.int .i64 X1,.slice A7 X2.length c7,.slice A8 X3.length c8] 25))
 have HN4:=aK (blk_alloc (blk_below HN3.out hb) (.cells #[.int .i64 X1,.slice A7 X2.length c7,.slice A8 X3.length c8] 25))
 have HY4:=aK (blk_new W4 (.cells #[.int .i64 X1,.slice A7 X2.length c7,.slice A8 X3.length c8] 25))
 have HQ5:=aK (And.intro (Kd.C_alloc hq5.2.2 (.cells #[.int .i64 X1,.slice A7 X2.length c7,.slice A8 X3.length c8] 25)) hq5.2.1)
 have HQ6:=aK (And.intro (Kd.C_alloc hq6.2.2 (.cells #[.int .i64 X1,.slice A7 X2.length c7,.slice A8 X3.length c8] 25)) hq6.2.1)
 clear hr5 hr6 hq5 hq6 hb hp1 hp2 I3 HM3 HN3 HMG HX2
 go_upto_region 5 with (fail)
 generalize W4.heap.size=b7 at *
 generalize W4.alloc (.cells #[.int .i64 X1,.slice A7 X2.length c7,.slice A8 X3.length c8] 25)=W5 at *
 have p0:=(blk_cell I4.out.bm 0).trans rfl
 have p1:=(blk_cell I4.out.bm 1).trans rfl
 have p2:=(blk_cell I4.out.bm 2).trans rfl
 have q0:=(blk_cell HY4.out 0).trans rfl
 have q1:=(blk_cell HY4.out 1).trans rfl
 have q2:=(blk_cell HY4.out 2).trans rfl
 have hc:=fleuronref27_Same.calls k X1 A5 c5 X2 A6 c6 X3 X1 A7 c7 X2 A8 c8 X3 true W5 I4.out.rc I4.out.lc I4.out.rr I4.out.lr HQ5.out.1 HQ5.out.2 HQ6.out.1 HQ6.out.2 HBP.out.2.2.1
 have hx4:(X4 != X4)=false:=by simp
 go_wp2_with fail
 refine hc.mono ?_
 clear hc p0 p1 p2 q0 q1 q2 hx4
 rintro e W6 ⟨rfl,hb⟩
 have I6:=aK (I4.out.ofBelow hb)
 have HM6:=aK (blk_below HM4.out hb)
 have HN6:=aK (blk_below HN4.out hb)
 clear hb I4 HM4 HN4 HY4 HQ5 HQ6
 rcases HBP.out.2.2.2 with ⟨hne,hx2⟩|⟨rfl,hlc,hlr,hfd,hrl,hval⟩
 ·have hneb:(X4 != 0)=true:=by simpa using hne
  subst hx2
  have p1:=(blk_cell I6.out.bm 1).trans rfl
  have HB:=aK I6.out.below
  clear hne
  go_wp2_with fail
  refine (fleuronlaw27_awake.calls true _ rfl).mono ?_
  rintro e WZ ⟨rfl,hbz⟩
  go_wp2
  go_ret
  exact ⟨rfl,below_step HB.out hbz⟩
 have HFD:=aK hfd
 have HRL:=aK hrl
 have HVL:=aK hval
 have HLN:=aK (And.intro HBP.out.1 HBP.out.2.1)
 have hw1:wrap64 ((cs.length:Int)+(cs2.length:Int))=(X2.length:Int):=by have:=HL.out;unfold wrap64;omega
 have hw2:wrap64 ((rs.length:Int)+(rs2.length:Int))=(X3.length:Int):=by have:=HL.out;unfold wrap64;omega
 have p1:=(blk_cell I6.out.bm 1).trans rfl
 have p2:=(blk_cell I6.out.bm 2).trans rfl
 have q1:=(blk_cell HM6.out 1).trans rfl
 have q2:=(blk_cell HM6.out 2).trans rfl
 have t1:=(blk_cell HN6.out 1).trans rfl
 have t2:=(blk_cell HN6.out 2).trans rfl
 clear hfd hrl hval hlc hlr HBP
 go_upto_region 11 with (fail)
 clear hw1 hw2 p1 p2
 have q0:=(blk_cell HM6.out 0).trans rfl
 have t0:=(blk_cell HN6.out 0).trans rfl
 have I7:=aK (I6.out.ofBelow (below_alloc (Below.refl _ _) (.cells #[.int .i64 sz,.slice A1 cs.length c1,.slice A2 rs.length c2,.int .i64 sz2,.slice B1 cs2.length d1,.slice B2 rs2.length d2] 25)))
 have HF:Aside0 (Kd.C k25 (W6.alloc (.cells #[.int .i64 sz,.slice A1 cs.length c1,.slice A2 rs.length c2,.int .i64 sz2,.slice B1 cs2.length d1,.slice B2 rs2.length d2] 25)) (some ⟨W6.heap.size,0,none⟩) 2 [⟨sz,cs,rs⟩,⟨sz2,cs2,rs2⟩]):=⟨lit2_M (x:=⟨sz,cs,rs⟩) (y:=⟨sz2,cs2,rs2⟩) (Kd.C_below HR1.out I7.out.below) HC1.out (Kd.C_below HR2.out I7.out.below) HC2.out (Kd.C_below HR3.out I7.out.below) HC3.out (Kd.C_below HR4.out I7.out.below) HC4.out (blk_new W6 (.cells #[.int .i64 sz,.slice A1 cs.length c1,.slice A2 rs.length c2,.int .i64 sz2,.slice B1 cs2.length d1,.slice B2 rs2.length d2] 25))⟩
 go_upto_block 0 with (fail)
 clear q0 q1 q2 t0 t1 t2 I6 HM6 HN6
 generalize W6.heap.size=bl at *
 generalize W6.alloc (.cells #[.int .i64 sz,.slice A1 cs.length c1,.slice A2 rs.length c2,.int .i64 sz2,.slice B1 cs2.length d1,.slice B2 rs2.length d2] 25)=W7 at *
 go_cut [] (fun wc=>Aside0 (BoI w wc b5 X1 A5 c5 X2 A6 c6 X3))
 case first =>
  go_wp2_with fail
  go_loopg [83] 2 (fun gg s83 wr=>∃ (i:Nat),i≤2∧2-i≤gg∧s83 = .int .i64 i∧Aside0 (BoI w wr b5 X1 A5 c5 X2 A6 c6 X3)∧Aside0 (Kd.C k25 wr (some ⟨bl,0,none⟩) 2 [⟨sz,cs,rs⟩,⟨sz2,cs2,rs2⟩]))
  case atStart=>exact ⟨0,by omega,by omega,rfl,I7,HF⟩
  case round =>
   clear I7 HF
   obtain ⟨i,hi,hg,rfl,I,HF⟩:=hrel
   by_cases hlt:i<2
   ·obtain ⟨wo,hwo⟩ : ∃ wo:World,wo=wr:=⟨_,rfl⟩
    subst hwo
    have hlti:(i:Int)<2:=by omega
    have hi0:(0:Int)≤(i:Int):=by omega
    have hli2:(i:Int)<((2:Nat):Int):=by omega
    obtain ⟨ad,P1,e1,P2,e2,he,hx0,hx1,hx2,hl1,hi1,hl2,hi2⟩:=at_T25 HF.out (i:Int) hi0 hli2
    injection he with he
    subst he
    simp only [Int.toNat_natCast,add_plain] at hx0 hx1 hx2
    have hsub:(∀ c∈(rd_T25 [(⟨sz,cs,rs⟩:S25),⟨sz2,cs2,rs2⟩] (i:Int)).f1,c∈cs∨c∈cs2)∧(∀ r∈(rd_T25 [(⟨sz,cs,rs⟩:S25),⟨sz2,cs2,rs2⟩] (i:Int)).f2,r∈rs∨r∈rs2)∧((rd_T25 [(⟨sz,cs,rs⟩:S25),⟨sz2,cs2,rs2⟩] (i:Int)).f1.length≤1000∧(rd_T25 [(⟨sz,cs,rs⟩:S25),⟨sz2,cs2,rs2⟩] (i:Int)).f2.length≤1000):=by
     have hll:=HL.out
     rcases i with _|_|i
     ·exact ⟨fun c hc=>.inl hc,fun c hc=>.inl hc,hll.1,hll.2.1⟩
     ·exact ⟨fun c hc=>.inr hc,fun c hc=>.inr hc,hll.2.2.1,hll.2.2.2⟩
     ·omega
    generalize rd_T25 [(⟨sz,cs,rs⟩:S25),⟨sz2,cs2,rs2⟩] (i:Int)=y at *
    obtain ⟨y0,ys,yr⟩:=y
    simp only at hx0 hx1 hx2 hl1 hi1 hl2 hi2 hsub
    have HSUB:=aK hsub
    have HLY:Aside0 (ys.length≤1000∧yr.length≤1000):=⟨hsub.2.2⟩
    have hb1:=below_alloc (Below.refl wo.heap.size wo) (.cells #[.int .i64 y0,.slice P1 ys.length e1,.slice P2 yr.length e2] 25)
    have K1:=aK (I.out.ofBelow hb1)
    have K2:=aK (Kd.C_below HF.out hb1)
    have K3:=aK (blk_new wo (.cells #[.int .i64 y0,.slice P1 ys.length e1,.slice P2 yr.length e2] 25))
    have K4:=aK (Kd.C_below hi1 hb1)
    have K5:=aK (Kd.C_below hi2 hb1)
    have HSTI:=aK (show wrap64 ((i:Int)+1)=((i+1:Nat):Int) by unfold wrap64;omega)
    clear hsub hb1 hl1 hi1 hl2 hi2 I HF
    go_upto_region 14 with (fail)
    clear hx0 hx1 hx2
    generalize wo.heap.size=b10 at *
    generalize wo.alloc (.cells #[.int .i64 y0,.slice P1 ys.length e1,.slice P2 yr.length e2] 25)=W13 at *
    have o1:=(blk_cell K3.out 1).trans rfl
    go_upto_block 2 with (fail)
    clear o1
    go_cut [] (fun wc=>Aside0 (BoI w wc b5 X1 A5 c5 X2 A6 c6 X3)∧Aside0 (Kd.C k25 wc (some ⟨bl,0,none⟩) 2 [⟨sz,cs,rs⟩,⟨sz2,cs2,rs2⟩])∧Aside0 (wc.heap[b10]?=some (.cells #[.int .i64 y0,.slice P1 ys.length e1,.slice P2 yr.length e2] 25 (0,0)))∧Aside0 (Kd.C k41 wc P1 ys.length ys)∧Aside0 (Kd.C k46 wc P2 yr.length yr))
    case first =>
     go_wp2_with fail
     go_loopg [90] ys.length (fun gg s90 wr=>∃ (j:Nat),j≤ys.length∧ys.length-j≤gg∧s90 = .int .i64 j∧Aside0 (BoI w wr b5 X1 A5 c5 X2 A6 c6 X3)∧Aside0 (Kd.C k25 wr (some ⟨bl,0,none⟩) 2 [⟨sz,cs,rs⟩,⟨sz2,cs2,rs2⟩])∧Aside0 (wr.heap[b10]?=some (.cells #[.int .i64 y0,.slice P1 ys.length e1,.slice P2 yr.length e2] 25 (0,0)))∧Aside0 (Kd.C k41 wr P1 ys.length ys)∧Aside0 (Kd.C k46 wr P2 yr.length yr))
     case atStart=>exact ⟨0,by omega,by omega,rfl,K1,K2,K3,K4,K5⟩
     case round =>
      clear K1 K2 K3 K4 K5
      obtain ⟨j,hj,hjg,rfl,J1,J2,J3,J4,J5⟩:=hrel
      by_cases hlt:j<ys.length
      ·have hltj:(j:Int)<(ys.length:Int):=by omega
       have hj0:(0:Int)≤(j:Int):=by omega
       obtain ⟨ad,ead,hx0,hx1,hx2,hx3⟩:=at_T41 J4.out (j:Int) hj0 hltj
       simp only [Int.toNat_natCast] at hx0 hx1 hx2 hx3
       have hmem:rd_T41 ys (j:Int)∈ys:=by
        unfold rd_T41
        rw [Int.toNat_natCast,List.getD_eq_getElem?_getD,List.getElem?_eq_getElem hlt]
        exact List.getElem_mem hlt
       have hfd:=HFD.out _ (HSUB.out.1 _ hmem)
       have HSTEP:=aK (show wrap64 ((j:Int)+1)=((j+1:Nat):Int) by have:=HLY.out;unfold wrap64;omega)
       generalize rd_T41 ys (j:Int)=x at *
       have HFX:=aK hfd
       subst ead
       have hb1:=below_alloc (Below.refl wr.heap.size wr) (.cells #[.int .i64 x.f0,.int .i64 x.f1,.int .i64 x.f2,.int .i64 x.f3] 41)
       have K1:=aK (J1.out.ofBelow hb1)
       have K2:=aK (Kd.C_below J2.out hb1)
       have K3:=aK (blk_below J3.out hb1)
       have K4:=aK (Kd.C_below J4.out hb1)
       have K5:=aK (Kd.C_below J5.out hb1)
       have Y1:=aK (blk_new wr (.cells #[.int .i64 x.f0,.int .i64 x.f1,.int .i64 x.f2,.int .i64 x.f3] 41))
       clear hmem hfd hb1 J1 J2 J3 J4 J5
       go_upto_region 17 with (fail)
       clear hx0 hx1 hx2 hx3
       generalize wr.heap.size=b12 at *
       generalize wr.alloc (.cells #[.int .i64 x.f0,.int .i64 x.f1,.int .i64 x.f2,.int .i64 x.f3] 41)=V1 at *
       have p0:=(blk_cell K1.out.bm 0).trans rfl
       have p1:=(blk_cell K1.out.bm 1).trans rfl
       have p2:=(blk_cell K1.out.bm 2).trans rfl
       have y0_:=(blk_cell Y1.out 0).trans rfl
       have y1_:=(blk_cell Y1.out 1).trans rfl
       have hc:=find_calls X1 A5 c5 X2 A6 c6 X3 x.f0 V1 K1.out.rc K1.out.rr (by have:=HLN.out;omega) (by have:=HLN.out;omega)
       rw [HFX.out] at hc
       go_wp2_with fail
       refine hc.mono ?_
       clear hc p0 p1 p2 y0_ y1_
       rintro e V2 ⟨rfl,hb⟩
       have hb3:=below_alloc hb (.cells #[.int .i64 x.f0,.int .i64 x.f1,.int .i64 x.f2,.int .i64 x.f3] 41)
       have L1:=aK (K1.out.ofBelow hb3)
       have L2:=aK (Kd.C_below K2.out hb3)
       have L3:=aK (blk_below K3.out hb3)
       have L4:=aK (Kd.C_below K4.out hb3)
       have L5:=aK (Kd.C_below K5.out hb3)
       have Y2:=aK (blk_below Y1.out hb3)
       have Z2:=aK (blk_new V2 (.cells #[.int .i64 x.f0,.int .i64 x.f1,.int .i64 x.f2,.int .i64 x.f3] 41))
       clear hb hb3 K1 K2 K3 K4 K5 Y1
       go_upto_region 18 with (fail)
       generalize V2.heap.size=b13 at *
       generalize V2.alloc (.cells #[.int .i64 x.f0,.int .i64 x.f1,.int .i64 x.f2,.int .i64 x.f3] 41)=V3 at *
       have m0:=(blk_cell Y2.out 0).trans rfl
       have m1:=(blk_cell Y2.out 1).trans rfl
       have m2:=(blk_cell Y2.out 2).trans rfl
       have m3:=(blk_cell Y2.out 3).trans rfl
       have n0:=(blk_cell Z2.out 0).trans rfl
       have n1:=(blk_cell Z2.out 1).trans rfl
       have n2:=(blk_cell Z2.out 2).trans rfl
       have n3:=(blk_cell Z2.out 3).trans rfl
       go_wp2
       go_roundg (ys.length-(j+1))
       case measure=>omega
       case rel=>exact ⟨j+1,by omega,by omega,by first|exact congrArg (Value.int .i64) HSTEP.out|go_num,L1,L2,L3,L4,L5⟩
      ·have hltj : ¬ (j:Int)<(ys.length:Int):=by omega
       obtain rfl:j=ys.length:=by omega
       go_wp2
       go_meet
       case rel=>exact ⟨J1,J2,J3,J4,J5⟩
    case rest =>
     obtain ⟨K1,K2,K3,K4,K5⟩:=hcut
     have o2:=(blk_cell K3.out 2).trans rfl
     go_upto_block 4 with (fail)
     clear o2
     go_wp2_with fail
     go_loopg [112] yr.length (fun gg s112 wr=>∃ (j:Nat),j≤yr.length∧yr.length-j≤gg∧s112 = .int .i64 j∧Aside0 (BoI w wr b5 X1 A5 c5 X2 A6 c6 X3)∧Aside0 (Kd.C k25 wr (some ⟨bl,0,none⟩) 2 [⟨sz,cs,rs⟩,⟨sz2,cs2,rs2⟩])∧Aside0 (wr.heap[b10]?=some (.cells #[.int .i64 y0,.slice P1 ys.length e1,.slice P2 yr.length e2] 25 (0,0)))∧Aside0 (Kd.C k41 wr P1 ys.length ys)∧Aside0 (Kd.C k46 wr P2 yr.length yr))
     case atStart=>exact ⟨0,by omega,by omega,rfl,K1,K2,K3,K4,K5⟩
     case round =>
      clear K1 K2 K3 K4 K5
      obtain ⟨j,hj,hjg,rfl,J1,J2,J3,J4,J5⟩:=hrel
      by_cases hlt:j<yr.length
      ·have hltj:(j:Int)<(yr.length:Int):=by omega
       have hj0:(0:Int)≤(j:Int):=by omega
       obtain ⟨ad,ead,hx0,hx1,hx2,hx3⟩:=at_T46 J5.out (j:Int) hj0 hltj
       simp only [Int.toNat_natCast] at hx0 hx1 hx2 hx3
       have hmem:rd_T46 yr (j:Int)∈yr:=by
        unfold rd_T46
        rw [Int.toNat_natCast,List.getD_eq_getElem?_getD,List.getElem?_eq_getElem hlt]
        exact List.getElem_mem hlt
       have hfd:=HRL.out _ (HSUB.out.2.1 _ hmem)
       have HSTEP:=aK (show wrap64 ((j:Int)+1)=((j+1:Nat):Int) by have:=HLY.out;unfold wrap64;omega)
       generalize rd_T46 yr (j:Int)=x at *
       have HFX:=aK hfd
       subst ead
       have hb1:=below_alloc (Below.refl wr.heap.size wr) (.cells #[.int .i64 x.f0,.int .i64 x.f1,.int .i64 x.f2,.int .i64 x.f3] 46)
       have K1:=aK (J1.out.ofBelow hb1)
       have K2:=aK (Kd.C_below J2.out hb1)
       have K3:=aK (blk_below J3.out hb1)
       have K4:=aK (Kd.C_below J4.out hb1)
       have K5:=aK (Kd.C_below J5.out hb1)
       have Y1:=aK (blk_new wr (.cells #[.int .i64 x.f0,.int .i64 x.f1,.int .i64 x.f2,.int .i64 x.f3] 46))
       clear hmem hfd hb1 J1 J2 J3 J4 J5
       go_upto_region 24 with (fail)
       clear hx0 hx1 hx2 hx3
       generalize wr.heap.size=b12 at *
       generalize wr.alloc (.cells #[.int .i64 x.f0,.int .i64 x.f1,.int .i64 x.f2,.int .i64 x.f3] 46)=V1 at *
       have p0:=(blk_cell K1.out.bm 0).trans rfl
       have p1:=(blk_cell K1.out.bm 1).trans rfl
       have p2:=(blk_cell K1.out.bm 2).trans rfl
       have y0_:=(blk_cell Y1.out 0).trans rfl
       have y1_:=(blk_cell Y1.out 1).trans rfl
       have hc:=rule_calls X1 A5 c5 X2 A6 c6 X3 x.f0 x.f1 V1 K1.out.rc K1.out.rr (by have:=HLN.out;omega) (by have:=HLN.out;omega)
       rw [HFX.out] at hc
       go_wp2_with fail
       refine hc.mono ?_
       clear hc p0 p1 p2 y0_ y1_
       rintro e V2 ⟨rfl,hb⟩
       have hb3:=below_alloc hb (.cells #[.int .i64 x.f0,.int .i64 x.f1,.int .i64 x.f2,.int .i64 x.f3] 46)
       have L1:=aK (K1.out.ofBelow hb3)
       have L2:=aK (Kd.C_below K2.out hb3)
       have L3:=aK (blk_below K3.out hb3)
       have L4:=aK (Kd.C_below K4.out hb3)
       have L5:=aK (Kd.C_below K5.out hb3)
       have Y2:=aK (blk_below Y1.out hb3)
       have Z2:=aK (blk_new V2 (.cells #[.int .i64 x.f0,.int .i64 x.f1,.int .i64 x.f2,.int .i64 x.f3] 46))
       clear hb hb3 K1 K2 K3 K4 K5 Y1
       go_upto_region 25 with (fail)
       generalize V2.heap.size=b13 at *
       generalize V2.alloc (.cells #[.int .i64 x.f0,.int .i64 x.f1,.int .i64 x.f2,.int .i64 x.f3] 46)=V3 at *
       have m0:=(blk_cell Y2.out 0).trans rfl
       have m1:=(blk_cell Y2.out 1).trans rfl
       have m2:=(blk_cell Y2.out 2).trans rfl
       have m3:=(blk_cell Y2.out 3).trans rfl
       have n0:=(blk_cell Z2.out 0).trans rfl
       have n1:=(blk_cell Z2.out 1).trans rfl
       have n2:=(blk_cell Z2.out 2).trans rfl
       have n3:=(blk_cell Z2.out 3).trans rfl
       go_wp2
       go_roundg (yr.length-(j+1))
       case measure=>omega
       case rel=>exact ⟨j+1,by omega,by omega,by first|exact congrArg (Value.int .i64) HSTEP.out|go_num,L1,L2,L3,L4,L5⟩
      ·have hltj : ¬ (j:Int)<(yr.length:Int):=by omega
       obtain rfl:j=yr.length:=by omega
       go_wp2
       go_roundg (2-(i+1))
       case measure=>omega
       case rel=>exact ⟨i+1,by omega,by omega,by first|exact congrArg (Value.int .i64) HSTI.out|go_num,J1,J2⟩
   ·have hlti : ¬ (i:Int)<2:=by omega
    obtain rfl:i=2:=by omega
    go_wp2
    go_meet
    case rel=>exact I
 case rest =>
  have I8:=hcut
  clear I7 HF
  have p0:=(blk_cell I8.out.bm 0).trans rfl
  have p1:=(blk_cell I8.out.bm 1).trans rfl
  have p2:=(blk_cell I8.out.bm 2).trans rfl
  have hc:=valid_calls X1 A5 c5 X2 A6 c6 X3 wc I8.out.rc I8.out.rr (by have:=HLN.out;omega) (by have:=HLN.out;omega)
  rw [HVL.out] at hc
  go_wp2_with fail
  refine hc.mono ?_
  clear hc p0 p1 p2
  rintro e W9 ⟨rfl,hb⟩
  have HB:=aK (below_step I8.out.below hb)
  clear hb
  go_wp2_with fail
  refine (fleuronlaw27_awake.calls true _ rfl).mono ?_
  rintro e WZ ⟨rfl,hbz⟩
  go_wp2
  go_ret
  exact ⟨rfl,below_step HB.out hbz⟩
end Go.Proofs.Ytoemkemmiikhlaa.PC2
