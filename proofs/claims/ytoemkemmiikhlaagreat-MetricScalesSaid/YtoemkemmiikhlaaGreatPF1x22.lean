import Derived.Test.YtoemkemmiikhlaaGreatPF1x0
import Derived.Test.YtoemkemmiikhlaaGreatPF1x1
import Derived.Test.YtoemkemmiikhlaaGreatPF1x2
import Derived.Test.YtoemkemmiikhlaaGreatPF1x3
import Derived.Test.YtoemkemmiikhlaaGreatPF1x10
import Derived.Test.YtoemkemmiikhlaaGreatPF1x15
import Derived.Test.YtoemkemmiikhlaaGreatPF1x18
import Derived.Test.YtoemkemmiikhlaaGreatPF1x21
namespace Go.Proofs.YtoemkemmiikhlaaGreat.PF1
open Go.RowKit Go.Proofs.YtoemkemmiikhlaaGreatW.PrintWords Go.Proofs.YtoemkemmiikhlaaGreatW.PrintLast Go.Proofs.YtoemkemmiikhlaaGreatW.PrintMore
attribute [local go_sem] max2_int min2_int max_two min_two max_three min_three max_four min_four
set_option linter.unusedVariables false
set_option linter.unusedSimpArgs false
attribute [local go_sem high] eqA50 eqA45
theorem lit1_M {W:World} {b:Nat} {x:S25} {A1 A2:Option Addr} {c1 c2:Nat} (h1:Kd.C k50 W A1 x.f1.length x.f1) (l1:x.f1.length≤c1) (h2:Kd.C k45 W A2 x.f2.length x.f2) (l2:x.f2.length≤c2) (hb:W.heap[b]?=some (.cells #[.int .i64 x.f0,.slice A1 x.f1.length c1,.slice A2 x.f2.length c2] 25 (0,0))):Kd.C k25 W (some ⟨b,0,none⟩) 1 [x]:=by
 refine ⟨rfl,by decide,fun _=>⟨⟨b,0,none⟩,rfl,fun j p hj=>?_⟩⟩
 rcases j with _|j
 ·obtain rfl:x=p:=by simpa using hj
  refine ⟨_,rfl,k25_mk W x l1 h1 l2 h2,fun i u hu=>?_⟩
  rw [add_plain,Nat.zero_mul,Nat.zero_add,blk_cell hb i]
  rw [← hu,← List.getElem?_toArray]
 ·simp at hj
def dblC (x:S50):S50:=⟨x.f0,2*x.f1,2*x.f2,2*x.f3⟩
def dblR (x:S45):S45:=⟨x.f0,x.f1,x.f2,if x.f2=0 then 2*x.f3 else x.f3⟩
def smallM (cs:List S50) (rs:List S45):Prop:=(∀ x∈cs,(-268435456≤x.f1∧x.f1≤268435456)∧(-268435456≤x.f2∧x.f2≤268435456)∧(-268435456≤x.f3∧x.f3≤268435456))∧(∀ x∈rs,x.f2=0→-268435456≤x.f3∧x.f3≤268435456)∧cs.length≤1000000∧rs.length≤1000000
def fleuronlaw27_MetricScales.P (k:Nat) (sz:Int) (cs:List S50) (rs:List S45):Prop :=
 fleuronlaw27_few.f k [⟨sz, cs, rs⟩] = some false ∨ (fleuronlaw27_few.f k [⟨sz, cs, rs⟩] = some true ∧ (fleuronref27_Valid.f k sz cs rs = some false ∨ (fleuronref27_Valid.f k sz cs rs = some true ∧
  (1≤sz∧sz≤268435456)∧smallM cs rs∧scaleM sz cs rs sz=(sz,cs,rs,0)∧fleuronref27_Same.f k sz cs rs sz cs rs=some true ∧
  ((∃ e,scaleM sz cs rs (2*sz)=(0,[],[],e)∧((e=2∧268435455<2*sz)∨e=17))∨scaleM sz cs rs (2*sz)=(2*sz,cs.map dblC,rs.map dblR,0)))))
structure MsI (w W:World) (b1 b5:Nat) (sz:Int) (A1:Option Addr) (n1 c1:Nat) (A2:Option Addr) (n2 c2:Nat) (A5:Option Addr) (c5:Nat) (A6:Option Addr) (c6:Nat) (xs:List S50) (ys:List S45):Prop where
 bm:W.heap[b1]?=some (.cells #[.int .i64 sz,.slice A1 n1 c1,.slice A2 n2 c2] 25 (0,0))
 bo:W.heap[b5]?=some (.cells #[.int .i64 (2*sz),.slice A5 n1 c5,.slice A6 n2 c6] 25 (0,0))
 rc:Kd.C k50 W A5 n1 xs
 rr:Kd.C k45 W A6 n2 ys
 below:Below w.heap.size w W
theorem MsI.ofBelow {w W W':World} {b1 b5:Nat} {sz:Int} {A1:Option Addr} {n1 c1:Nat} {A2:Option Addr} {n2 c2:Nat} {A5:Option Addr} {c5:Nat} {A6:Option Addr} {c6:Nat} {xs:List S50} {ys:List S45} (h:MsI w W b1 b5 sz A1 n1 c1 A2 n2 c2 A5 c5 A6 c6 xs ys) (hb:Below W.heap.size W W'):MsI w W' b1 b5 sz A1 n1 c1 A2 n2 c2 A5 c5 A6 c6 xs ys :=
 ⟨blk_below h.bm hb,blk_below h.bo hb,Kd.C_below h.rc hb,Kd.C_below h.rr hb,below_step h.below hb⟩
theorem rdT_map50 (f:S50→S50) (l:List S50) (i:Nat) (h:i<l.length):rd_T50 (l.map f) (i:Int)=f (rd_T50 l (i:Int)):=by
 unfold rd_T50
 rw [Int.toNat_natCast,List.getD_eq_getElem?_getD,List.getD_eq_getElem?_getD,List.getElem?_map,List.getElem?_eq_getElem h]
 rfl
theorem rdT_map45 (f:S45→S45) (l:List S45) (i:Nat) (h:i<l.length):rd_T45 (l.map f) (i:Int)=f (rd_T45 l (i:Int)):=by
 unfold rd_T45
 rw [Int.toNat_natCast,List.getD_eq_getElem?_getD,List.getD_eq_getElem?_getD,List.getElem?_map,List.getElem?_eq_getElem h]
 rfl
theorem rdT_mem50 (l:List S50) (i:Nat) (h:i<l.length):rd_T50 l (i:Int)∈l:=by
 unfold rd_T50
 rw [Int.toNat_natCast,List.getD_eq_getElem?_getD,List.getElem?_eq_getElem h]
 exact List.getElem_mem h
theorem rdT_mem45 (l:List S45) (i:Nat) (h:i<l.length):rd_T45 l (i:Int)∈l:=by
 unfold rd_T45
 rw [Int.toNat_natCast,List.getD_eq_getElem?_getD,List.getElem?_eq_getElem h]
 exact List.getElem_mem h
set_option maxHeartbeats 16000000 in
set_option maxRecDepth 100000 in
theorem fleuronlaw27_MetricScales.calls (k : Nat) (sz : Int) (A1 : Option Addr) (c1 : Nat) (cs : List S50) (A2 : Option Addr) (c2 : Nat) (rs : List S45) (w : World) (hr1 : Kd.C k50 w A1 cs.length cs) (hc1 : cs.length ≤ c1) (hr2 : Kd.C k45 w A2 rs.length rs) (hc2 : rs.length ≤ c2) (h : fleuronlaw27_MetricScales.P k sz cs rs) :
  Calls Tryz.prog 8 #[.agg #[.int .i64 sz,.slice A1 cs.length c1,.slice A2 rs.length c2]] w fun e w'=>e = .returned (.bool true)∧Below w.heap.size w w':=by
 have hu:=Tryz.underlying25
 have hu50:=Tryz.underlying50
 have hu45:=Tryz.underlying45
 have HR1:=aK hr1
 have HR2:=aK hr2
 have HC1:=aK hc1
 have HC2:=aK hc2
 obtain ⟨b1,hb1⟩ : ∃ b1,b1=w.heap.size:=⟨_,rfl⟩
 have HB:=aK (below_alloc (Below.refl w.heap.size w) (.cells #[.int .i64 sz,.slice A1 cs.length c1,.slice A2 rs.length c2] 25))
 have hbm:=blk_new w (.cells #[.int .i64 sz,.slice A1 cs.length c1,.slice A2 rs.length c2] 25)
 rw [← hb1] at hbm
 have HM:=aK hbm
 have HBE:=aK hb1
 have H:=aK h
 clear hr1 hr2 hc1 hc2 hbm hb1 h
 go_enter Tryz.func8,Tryz.ntmps8
 go_upto_region 1 with (fail)
 rw [← HBE.out]
 generalize w.alloc (.cells #[.int .i64 sz,.slice A1 cs.length c1,.slice A2 rs.length c2] 25)=V at *
 have p0:=(blk_cell HM.out 0).trans rfl
 have p1:=(blk_cell HM.out 1).trans rfl
 have p2:=(blk_cell HM.out 2).trans rfl
 have HB1:=aK (below_alloc HB.out (.cells #[.int .i64 sz,.slice A1 cs.length c1,.slice A2 rs.length c2] 25))
 have HM1:=aK (blk_alloc HM.out (.cells #[.int .i64 sz,.slice A1 cs.length c1,.slice A2 rs.length c2] 25))
 have HF:Aside0 (Kd.C k25 (V.alloc (.cells #[.int .i64 sz,.slice A1 cs.length c1,.slice A2 rs.length c2] 25)) (some ⟨V.heap.size,0,none⟩) 1 [⟨sz,cs,rs⟩]):=⟨lit1_M (x:=⟨sz,cs,rs⟩) (Kd.C_below HR1.out HB1.out) HC1.out (Kd.C_below HR2.out HB1.out) HC2.out (blk_new V (.cells #[.int .i64 sz,.slice A1 cs.length c1,.slice A2 rs.length c2] 25))⟩
 rcases H.out with hf|⟨hf,h⟩
 ·have hc:=fleuronlaw27_few.calls k _ 1 [⟨sz,cs,rs⟩] false _ HF.out (Nat.le_refl 1) hf
  clear hf H
  go_wp2_with fail
  refine hc.mono ?_
  clear hc p0 p1 p2
  rintro e W1 ⟨rfl,hb⟩
  have HB2:=aK (below_step HB1.out hb)
  clear hb HB
  have HB:=HB2
  go_wp2_with fail
  refine (fleuronlaw27_awake.calls true _ rfl).mono ?_
  rintro e WZ ⟨rfl,hbz⟩
  go_wp2
  go_ret
  exact ⟨rfl,below_step HB.out hbz⟩
 have hc:=fleuronlaw27_few.calls k _ 1 [⟨sz,cs,rs⟩] true _ HF.out (Nat.le_refl 1) hf
 have H:=aK h
 clear hf h
 go_wp2_with fail
 refine hc.mono ?_
 clear hc p0 p1 p2
 rintro e W1 ⟨rfl,hb⟩
 have HB2:=aK (below_step HB1.out hb)
 have HM2:=aK (blk_below HM1.out hb)
 clear hb HB1 HM1 HB HM HF
 have p0:=(blk_cell HM2.out 0).trans rfl
 have p1:=(blk_cell HM2.out 1).trans rfl
 have p2:=(blk_cell HM2.out 2).trans rfl
 rcases H.out with hf|⟨hf,hsz,hsm,hs1,hsame,h⟩
 ·have hc:=fleuronref27_Valid.calls k sz A1 c1 cs A2 c2 rs false W1 (Kd.C_below HR1.out HB2.out) HC1.out (Kd.C_below HR2.out HB2.out) HC2.out hf
  clear hf H
  go_wp2_with fail
  refine hc.mono ?_
  clear hc p0 p1 p2
  rintro e W2 ⟨rfl,hb⟩
  have HB:=aK (below_step HB2.out hb)
  clear hb
  go_wp2_with fail
  refine (fleuronlaw27_awake.calls true _ rfl).mono ?_
  rintro e WZ ⟨rfl,hbz⟩
  go_wp2
  go_ret
  exact ⟨rfl,below_step HB.out hbz⟩
 have hc:=fleuronref27_Valid.calls k sz A1 c1 cs A2 c2 rs true W1 (Kd.C_below HR1.out HB2.out) HC1.out (Kd.C_below HR2.out HB2.out) HC2.out hf
 have HSZ:=aK hsz
 have HSM:=aK hsm
 have HS1:=aK hs1
 have HSA:=aK hsame
 have H:=aK h
 clear hf hsz hsm hs1 hsame h
 go_wp2_with fail
 refine hc.mono ?_
 clear hc p0 p1 p2
 rintro e W2 ⟨rfl,hb⟩
 have HB3:=aK (below_step HB2.out hb)
 have HM3:=aK (blk_below HM2.out hb)
 clear hb HB2 HM2
 have p0:=(blk_cell HM3.out 0).trans rfl
 have p1:=(blk_cell HM3.out 1).trans rfl
 have p2:=(blk_cell HM3.out 2).trans rfl
 have hc:=scale_calls sz A1 c1 cs A2 c2 rs sz W2 (Kd.C_below HR1.out HB3.out) HC1.out (Kd.C_below HR2.out HB3.out) HC2.out HSM.out.2.2.1 HSM.out.2.2.2
 rw [HS1.out] at hc
 go_wp2_with fail
 refine hc.mono ?_
 clear hc p0 p1 p2
 rintro e W3 ⟨v1,v2,rfl,hr3,hr4,hb⟩
 obtain ⟨A3,c3,rfl⟩:=Kd.R_slice hr3
 obtain ⟨A4,c4,rfl⟩:=Kd.R_slice hr4
 have hq3:=Kd.R_reads' hr3
 have hq4:=Kd.R_reads' hr4
 have HB4:=aK (below_alloc (below_step HB3.out hb) (.cells #[.int .i64 sz,.slice A3 cs.length c3,.slice A4 rs.length c4] 25))
 have HM4:=aK (blk_alloc (blk_below HM3.out hb) (.cells #[.int .i64 sz,.slice A3 cs.length c3,.slice A4 rs.length c4] 25))
 have HX4:=aK (blk_new W3 (.cells #[.int .i64 sz,.slice A3 cs.length c3,.slice A4 rs.length c4] 25))
 have HQ3:=aK (And.intro (Kd.C_below hq3.2.2 (below_alloc (Below.refl _ _) (.cells #[.int .i64 sz,.slice A3 cs.length c3,.slice A4 rs.length c4] 25))) hq3.2.1)
 have HQ4:=aK (And.intro (Kd.C_below hq4.2.2 (below_alloc (Below.refl _ _) (.cells #[.int .i64 sz,.slice A3 cs.length c3,.slice A4 rs.length c4] 25))) hq4.2.1)
 clear hb HB3 HM3 hr3 hr4 hq3 hq4
 go_upto_region 4 with (fail)
 generalize W3.heap.size=b3 at *
 generalize W3.alloc (.cells #[.int .i64 sz,.slice A3 cs.length c3,.slice A4 rs.length c4] 25)=W4 at *
 have p0:=(blk_cell HM4.out 0).trans rfl
 have p1:=(blk_cell HM4.out 1).trans rfl
 have p2:=(blk_cell HM4.out 2).trans rfl
 have q0:=(blk_cell HX4.out 0).trans rfl
 have q1:=(blk_cell HX4.out 1).trans rfl
 have q2:=(blk_cell HX4.out 2).trans rfl
 have hc:=fleuronref27_Same.calls k sz A3 c3 cs A4 c4 rs sz A1 c1 cs A2 c2 rs true W4 HQ3.out.1 HQ3.out.2 HQ4.out.1 HQ4.out.2 (Kd.C_below HR1.out HB4.out) HC1.out (Kd.C_below HR2.out HB4.out) HC2.out HSA.out
 go_wp2_with fail
 refine hc.mono ?_
 clear hc p0 p1 p2 q0 q1 q2
 rintro e W5 ⟨rfl,hb⟩
 have HB5:=aK (below_step HB4.out hb)
 have HM5:=aK (blk_below HM4.out hb)
 clear hb HB4 HM4 HX4 HQ3 HQ4
 have p0:=(blk_cell HM5.out 0).trans rfl
 have p1:=(blk_cell HM5.out 1).trans rfl
 have p2:=(blk_cell HM5.out 2).trans rfl
 have hw2:wrap64 (2*sz)=2*sz:=by have:=HSZ.out;unfold wrap64;omega
 have hc:=scale_calls sz A1 c1 cs A2 c2 rs (2*sz) W5 (Kd.C_below HR1.out HB5.out) HC1.out (Kd.C_below HR2.out HB5.out) HC2.out HSM.out.2.2.1 HSM.out.2.2.2
 rcases H.out with ⟨er,hs2,he⟩|hs2
 ·rw [hs2] at hc
  have HE:=aK he
  clear hs2 he H
  go_wp2_with fail
  refine hc.mono ?_
  clear hc p0 p1 p2
  rintro e W6 ⟨v1,v2,rfl,hr3,hr4,hb⟩
  obtain ⟨A5,c5,rfl⟩:=Kd.R_slice hr3
  obtain ⟨A6,c6,rfl⟩:=Kd.R_slice hr4
  have HB6:=aK (below_alloc (below_step HB5.out hb) (.cells #[.int .i64 0,.slice A5 0 c5,.slice A6 0 c6] 25))
  have HM6:=aK (blk_alloc (blk_below HM5.out hb) (.cells #[.int .i64 0,.slice A5 0 c5,.slice A6 0 c6] 25))
  clear hb hr3 hr4 HB5 HM5
  go_upto_region 7 with (fail)
  generalize W6.alloc (.cells #[.int .i64 0,.slice A5 0 c5,.slice A6 0 c6] 25)=W7 at *
  have HB:=HB6
  have p0:=(blk_cell HM6.out 0).trans rfl
  rcases HE.out with ⟨rfl,hbig⟩|rfl
  ·have hbg:decide (268435455<2*sz)=true:=decide_eq_true hbig
   go_wp2_with fail
   refine (fleuronlaw27_awake.calls true _ rfl).mono ?_
   rintro e WZ ⟨rfl,hbz⟩
   go_wp2
   go_ret
   exact ⟨rfl,below_step HB.out hbz⟩
  ·by_cases hbig:268435455<2*sz
   ·have hbg:decide (268435455<2*sz)=true:=decide_eq_true hbig
    go_wp2_with fail
    refine (fleuronlaw27_awake.calls true _ rfl).mono ?_
    rintro e WZ ⟨rfl,hbz⟩
    go_wp2
    go_ret
    exact ⟨rfl,below_step HB.out hbz⟩
   ·have hbg:decide (268435455<2*sz)=false:=decide_eq_false hbig
    go_wp2_with fail
    refine (fleuronlaw27_awake.calls true _ rfl).mono ?_
    rintro e WZ ⟨rfl,hbz⟩
    go_wp2
    go_ret
    exact ⟨rfl,below_step HB.out hbz⟩
 rw [hs2] at hc
 clear hs2 H
 go_wp2_with fail
 refine hc.mono ?_
 clear hc p0 p1 p2
 rintro e W6 ⟨v1,v2,rfl,hr3,hr4,hb⟩
 obtain ⟨A5,c5,hv5⟩:=Kd.R_slice hr3
 obtain ⟨A6,c6,hv6⟩:=Kd.R_slice hr4
 rw [List.length_map] at hv5 hv6
 subst hv5 hv6
 have hq3:=Kd.R_reads' hr3
 have hq4:=Kd.R_reads' hr4
 have hl3:=hq3.2.2
 have hl4:=hq4.2.2
 simp only [List.length_map] at hl3 hl4
 have hbn:=below_step HB5.out hb
 have I7:Aside0 (MsI w (W6.alloc (.cells #[.int .i64 (2*sz),.slice A5 cs.length c5,.slice A6 rs.length c6] 25)) b1 W6.heap.size sz A1 cs.length c1 A2 rs.length c2 A5 c5 A6 c6 (cs.map dblC) (rs.map dblR)):=⟨⟨blk_alloc (blk_below HM5.out hb) _,blk_new W6 _,Kd.C_below hl3 (below_alloc (Below.refl _ _) _),Kd.C_below hl4 (below_alloc (Below.refl _ _) _),below_alloc hbn _⟩⟩
 clear hb hr3 hr4 HB5 HM5 hq3 hq4 hl3 hl4 hbn
 go_upto_region 7 with (fail)
 generalize W6.heap.size=b5 at *
 generalize W6.alloc (.cells #[.int .i64 (2*sz),.slice A5 cs.length c5,.slice A6 rs.length c6] 25)=W7 at *
 have p0:=(blk_cell I7.out.bm 0).trans rfl
 have p1:=(blk_cell I7.out.bm 1).trans rfl
 have p2:=(blk_cell I7.out.bm 2).trans rfl
 have q0:=(blk_cell I7.out.bo 0).trans rfl
 have q1:=(blk_cell I7.out.bo 1).trans rfl
 have q2:=(blk_cell I7.out.bo 2).trans rfl
 go_upto_block 0 with (fail)
 clear p0 p1 p2 q0 q1 q2 hw2
 go_cut [] (fun wc=>Aside0 (MsI w wc b1 b5 sz A1 cs.length c1 A2 rs.length c2 A5 c5 A6 c6 (cs.map dblC) (rs.map dblR)))
 case first =>
  go_wp2_with fail
  go_loopg [88] cs.length (fun gg s88 wr=>∃ (i:Nat),i≤cs.length∧cs.length-i≤gg∧s88 = .int .i64 i∧Aside0 (MsI w wr b1 b5 sz A1 cs.length c1 A2 rs.length c2 A5 c5 A6 c6 (cs.map dblC) (rs.map dblR)))
  case atStart=>exact ⟨0,by omega,by omega,rfl,I7⟩
  case round =>
   clear I7
   obtain ⟨i,hi,hg,rfl,I⟩:=hrel
   by_cases hlt:i<cs.length
   ·have hlti:(i:Int)<(cs.length:Int):=by omega
    have hi0:(0:Int)≤(i:Int):=by omega
    obtain ⟨ad,e1,hx0,hx1,hx2,hx3⟩:=at_T50 HR1.out (i:Int) hi0 hlti
    obtain ⟨ad2,e2,hy0,hy1,hy2,hy3⟩:=at_T50 I.out.rc (i:Int) hi0 hlti
    rw [rdT_map50 dblC cs i hlt] at hy0 hy1 hy2 hy3
    have hbd:=HSM.out.1 _ (rdT_mem50 cs i hlt)
    simp only [Int.toNat_natCast] at hx0 hx1 hx2 hx3 hy0 hy1 hy2 hy3
    replace hx0:=(I.out.below.cell (World.block_lt_of_cell? w _ hx0)).trans hx0
    replace hx1:=(I.out.below.cell (World.block_lt_of_cell? w _ hx1)).trans hx1
    replace hx2:=(I.out.below.cell (World.block_lt_of_cell? w _ hx2)).trans hx2
    replace hx3:=(I.out.below.cell (World.block_lt_of_cell? w _ hx3)).trans hx3
    generalize rd_T50 cs (i:Int)=x at *
    obtain ⟨x0,x1,x2,x3⟩:=x
    simp only [dblC] at hx0 hx1 hx2 hx3 hy0 hy1 hy2 hy3
    obtain ⟨y1,hye1⟩ : ∃ y,y=2*x1:=⟨_,rfl⟩
    rw [← hye1] at hy1
    have hw1:wrap64 (2*x1)=y1:=by rw [hye1];unfold wrap64;simp only at hbd;omega
    clear hye1
    obtain ⟨y2,hye2⟩ : ∃ y,y=2*x2:=⟨_,rfl⟩
    rw [← hye2] at hy2
    have hw2:wrap64 (2*x2)=y2:=by rw [hye2];unfold wrap64;simp only at hbd;omega
    clear hye2
    obtain ⟨y3,hye3⟩ : ∃ y,y=2*x3:=⟨_,rfl⟩
    rw [← hye3] at hy3
    have hw3:wrap64 (2*x3)=y3:=by rw [hye3];unfold wrap64;simp only at hbd;omega
    clear hye3
    have HSTEP:=aK (show wrap64 ((i:Int)+1)=((i+1:Nat):Int) by have:=HSM.out.2.2.1;unfold wrap64;omega)
    subst e1
    have E2:=aK e2
    have HY:=aK (And.intro hy0 (And.intro hy1 (And.intro hy2 hy3)))
    clear hy0 hy1 hy2 hy3 hbd e2
    go_upto_region 14 with (fail)
    clear hx0 hx1 hx2 hx3
    have I0:=aK ((I.out.ofBelow (below_alloc (Below.refl wr.heap.size wr) (.cells #[.int .i64 x0,.int .i64 x1,.int .i64 x2,.int .i64 x3] 50))).ofBelow (below_drew1 (Below.refl _ _)))
    have Y0:=aK (blk_drew (blk_new wr (.cells #[.int .i64 x0,.int .i64 x1,.int .i64 x2,.int .i64 x3] 50)))
    have HYL:Aside0 (∀ {a:Addr} {v:Value},wr.cell? a=some v→(wr.alloc (.cells #[.int .i64 x0,.int .i64 x1,.int .i64 x2,.int .i64 x3] 50)).drew.cell? a=some v):=⟨fun h=>((below_drew1 (below_alloc (Below.refl wr.heap.size wr) (.cells #[.int .i64 x0,.int .i64 x1,.int .i64 x2,.int .i64 x3] 50))).cell (World.block_lt_of_cell? _ _ h)).trans h⟩
    have P0:=aK (HYL.out HY.out.1)
    have P1:=aK (HYL.out HY.out.2.1)
    have P2:=aK (HYL.out HY.out.2.2.1)
    have P3:=aK (HYL.out HY.out.2.2.2)
    rw [E2.out] at I I0
    clear HYL HY
    generalize hb8:wr.heap.size=b8 at *
    generalize wr.alloc (.cells #[.int .i64 x0,.int .i64 x1,.int .i64 x2,.int .i64 x3] 50)=V8 at *
    clear hb8
    refine start_ (n:=18) (S:=fun w'=>w'.cell? ⟨b5,1,none⟩=some (.slice (some ad2) cs.length c5)∧w'.cell? (ad2.add (i*4))=some (.int .i64 x0)∧w'.cell? ⟨(ad2.add (i*4)).block,(ad2.add (i*4)).off+1,none⟩=some (.int .i64 y1)∧w'.cell? ⟨(ad2.add (i*4)).block,(ad2.add (i*4)).off+2,none⟩=some (.int .i64 y2)∧w'.cell? ⟨(ad2.add (i*4)).block,(ad2.add (i*4)).off+3,none⟩=some (.int .i64 y3)∧w'.cell? ⟨b8,0,none⟩=some (.int .i64 x0)∧w'.cell? ⟨b8,1,none⟩=some (.int .i64 x1)∧w'.cell? ⟨b8,2,none⟩=some (.int .i64 x2)∧w'.cell? ⟨b8,3,none⟩=some (.int .i64 x3)) (ds:=[]) #[false,false,false,false,false,false,false,false,false,false,false,false,false,false,false,false,false,false] (by kernel_rfl) rfl rfl ⟨(blk_cell I0.out.bo 1).trans rfl,P0.out,P1.out,P2.out,P3.out,(blk_cell Y0.out 0).trans rfl,(blk_cell Y0.out 1).trans rfl,(blk_cell Y0.out 2).trans rfl,(blk_cell Y0.out 3).trans rfl⟩ (fun hHeld=>?_)
    refine pu 0 (some 93) ?_ rfl rfl (by kernel_rfl) (fun _ _ _ h=>h) (.inl ⟨by rfl,?_⟩) ?_ ?_ ?_;rotate_left;intro w';go_simp;with_reducible rfl;rotate_left;simp only [nS];rfl
    refine pu 2 (some 95) ?_ rfl rfl (by kernel_rfl) (fun _ _ _ h=>h) (.inl ⟨by rfl,?_⟩) ?_ ?_ ?_;rotate_left;intro w';go_simp;with_reducible rfl;rotate_left;simp only [nS];rfl
    refine pu 5 (some 98) ?_ rfl rfl (by kernel_rfl) (fun _ _ _ h=>h) (.inl ⟨by rfl,?_⟩) ?_ ?_ ?_;rotate_left;intro w';go_simp;with_reducible rfl;rotate_left;simp only [nS];rfl
    refine pu 7 (some 100) ?_ rfl rfl (by kernel_rfl) (fun _ _ _ h=>h) (.inl ⟨by rfl,?_⟩) ?_ ?_ ?_;rotate_left;intro w';go_simp;with_reducible rfl;rotate_left;simp only [nS];rfl
    refine pu 10 (some 103) ?_ rfl rfl (by kernel_rfl) (fun _ _ _ h=>h) (.inl ⟨by rfl,?_⟩) ?_ ?_ ?_;rotate_left;intro w';go_simp;with_reducible rfl;rotate_left;simp only [nS];rfl
    refine pu 13 (some 106) ?_ rfl rfl (by kernel_rfl) (fun _ _ _ h=>h) (.inl ⟨by rfl,?_⟩) ?_ ?_ ?_;rotate_left;intro w';go_simp;with_reducible rfl;rotate_left;simp only [nS];rfl
    refine tk 1 (some 94) ?_ rfl rfl (by kernel_rfl) (fun _ _ _ h=>h) (.inl ⟨by rfl,?_⟩) hHeld ?_ ?_ ?_;rotate_left;rintro w' ⟨s0,s1,s2,s3,s4,s5,s6,s7,s8⟩;go_simp;with_reducible rfl;rotate_left;simp only [nS];rfl
    refine pu 3 (some 96) ?_ rfl rfl (by kernel_rfl) (fun _ _ _ h=>h) (.inl ⟨by rfl,?_⟩) ?_ ?_ ?_;rotate_left;intro w';go_simp;with_reducible rfl;rotate_left;simp only [nS];rfl
    refine tk 4 (some 97) ?_ rfl rfl (by kernel_rfl) (fun _ _ _ h=>h) (.inl ⟨by rfl,?_⟩) hHeld ?_ ?_ ?_;rotate_left;rintro w' ⟨s0,s1,s2,s3,s4,s5,s6,s7,s8⟩;go_simp;with_reducible rfl;rotate_left;simp only [nS];rfl
    refine tk 6 (some 99) ?_ rfl rfl (by kernel_rfl) (fun _ _ _ h=>h) (.inl ⟨by rfl,?_⟩) hHeld ?_ ?_ ?_;rotate_left;rintro w' ⟨s0,s1,s2,s3,s4,s5,s6,s7,s8⟩;go_simp;with_reducible rfl;rotate_left;simp only [nS];rfl
    refine tk 8 (some 101) ?_ rfl rfl (by kernel_rfl) (fun _ _ _ h=>h) (.inl ⟨by rfl,?_⟩) hHeld ?_ ?_ ?_;rotate_left;rintro w' ⟨s0,s1,s2,s3,s4,s5,s6,s7,s8⟩;go_simp;with_reducible rfl;rotate_left;simp only [nS];rfl
    refine pu 9 (some 102) ?_ rfl rfl (by kernel_rfl) (fun _ _ _ h=>h) (.inl ⟨by rfl,?_⟩) ?_ ?_ ?_;rotate_left;intro w';go_simp;with_reducible rfl;rotate_left;simp only [nS];rfl
    refine tk 11 (some 104) ?_ rfl rfl (by kernel_rfl) (fun _ _ _ h=>h) (.inl ⟨by rfl,?_⟩) hHeld ?_ ?_ ?_;rotate_left;rintro w' ⟨s0,s1,s2,s3,s4,s5,s6,s7,s8⟩;go_simp;with_reducible rfl;rotate_left;simp only [nS];rfl
    refine pu 12 (some 105) ?_ rfl rfl (by kernel_rfl) (fun _ _ _ h=>h) (.inl ⟨by rfl,?_⟩) ?_ ?_ ?_;rotate_left;intro w';go_simp;with_reducible rfl;rotate_left;simp only [nS];rfl
    refine tk 14 (some 107) ?_ rfl rfl (by kernel_rfl) (fun _ _ _ h=>h) (.inl ⟨by rfl,?_⟩) hHeld ?_ ?_ ?_;rotate_left;rintro w' ⟨s0,s1,s2,s3,s4,s5,s6,s7,s8⟩;go_simp;with_reducible rfl;rotate_left;simp only [nS];rfl
    refine pu 15 (some 108) ?_ rfl rfl (by kernel_rfl) (fun _ _ _ h=>h) (.inl ⟨by rfl,?_⟩) ?_ ?_ ?_;rotate_left;intro w';go_simp;with_reducible rfl;rotate_left;simp only [nS];rfl
    refine pu 16 (some 109) ?_ rfl rfl (by kernel_rfl) (fun _ _ _ h=>h) (.inl ⟨by rfl,?_⟩) ?_ ?_ ?_;rotate_left;intro w';go_simp;with_reducible rfl;rotate_left;simp only [nS];rfl
    refine pu 17 (some 110) ?_ rfl rfl (by kernel_rfl) (fun _ _ _ h=>h) (.inl ⟨by rfl,?_⟩) ?_ ?_ ?_;rotate_left;intro w';go_simp;with_reducible rfl;rotate_left;simp only [nS];rfl
    refine done_ (by kernel_rfl) ?_
    go_wp2
    go_roundg (cs.length-(i+1))
    case measure=>omega
    case rel=>exact ⟨i+1,by omega,by omega,by first|exact congrArg (Value.int .i64) HSTEP.out|go_num,⟨by rw [E2.out];exact I0.out⟩⟩
   ·have hlti : ¬ (i:Int)<(cs.length:Int):=by omega
    obtain rfl:i=cs.length:=by omega
    go_wp2
    go_meet
    case rel=>exact I
 case rest =>
  have I8:=hcut
  clear I7
  have p0:=(blk_cell I8.out.bm 0).trans rfl
  have p1:=(blk_cell I8.out.bm 1).trans rfl
  have p2:=(blk_cell I8.out.bm 2).trans rfl
  go_upto_block 2 with (fail)
  clear p0 p1 p2
  go_cut [] (fun wc=>Aside0 (MsI w wc b1 b5 sz A1 cs.length c1 A2 rs.length c2 A5 c5 A6 c6 (cs.map dblC) (rs.map dblR)))
  case first =>
   go_wp2_with fail
   go_loopg [115] rs.length (fun gg s115 wr=>∃ (i:Nat),i≤rs.length∧rs.length-i≤gg∧s115 = .int .i64 i∧Aside0 (MsI w wr b1 b5 sz A1 cs.length c1 A2 rs.length c2 A5 c5 A6 c6 (cs.map dblC) (rs.map dblR)))
   case atStart=>exact ⟨0,by omega,by omega,rfl,I8⟩
   case round =>
    clear I8
    obtain ⟨i,hi,hg,rfl,I⟩:=hrel
    by_cases hlt:i<rs.length
    ·have hlti:(i:Int)<(rs.length:Int):=by omega
     have hi0:(0:Int)≤(i:Int):=by omega
     obtain ⟨ad,e1,hx0,hx1,hx2,hx3⟩:=at_T45 HR2.out (i:Int) hi0 hlti
     obtain ⟨ad2,e2,hy0,hy1,hy2,hy3⟩:=at_T45 I.out.rr (i:Int) hi0 hlti
     rw [rdT_map45 dblR rs i hlt] at hy0 hy1 hy2 hy3
     have hbd:=HSM.out.2.1 _ (rdT_mem45 rs i hlt)
     simp only [Int.toNat_natCast] at hx0 hx1 hx2 hx3 hy0 hy1 hy2 hy3
     replace hx0:=(I.out.below.cell (World.block_lt_of_cell? w _ hx0)).trans hx0
     replace hx1:=(I.out.below.cell (World.block_lt_of_cell? w _ hx1)).trans hx1
     replace hx2:=(I.out.below.cell (World.block_lt_of_cell? w _ hx2)).trans hx2
     replace hx3:=(I.out.below.cell (World.block_lt_of_cell? w _ hx3)).trans hx3
     generalize rd_T45 rs (i:Int)=x at *
     obtain ⟨x0,x1,x2,x3⟩:=x
     simp only [dblR] at hx0 hx1 hx2 hx3 hy0 hy1 hy2 hy3
     have HSTEP:=aK (show wrap64 ((i:Int)+1)=((i+1:Nat):Int) by have:=HSM.out.2.2.2;unfold wrap64;omega)
     subst e1
     have E2:=aK e2
     have HY:=aK (And.intro hy0 (And.intro hy1 (And.intro hy2 hy3)))
     have HBD:=aK hbd
     clear hy0 hy1 hy2 hy3 hbd e2
     have Y1:=aK (blk_new wr (.cells #[.int .i64 x0,.int .i64 x1,.int .i64 x2,.int .i64 x3] 45))
     have HBA:=aK (below_drew1 (below_alloc (Below.refl wr.heap.size wr) (.cells #[.int .i64 x0,.int .i64 x1,.int .i64 x2,.int .i64 x3] 45)))
     have HBB:Aside0 (∀ v,Below wr.heap.size wr ((wr.alloc (.cells #[.int .i64 x0,.int .i64 x1,.int .i64 x2,.int .i64 x3] 45)).setCell ⟨wr.heap.size,3,none⟩ v).drew):=⟨fun v=>below_drew1 (below_set (below_alloc (Below.refl wr.heap.size wr) (.cells #[.int .i64 x0,.int .i64 x1,.int .i64 x2,.int .i64 x3] 45)) (Nat.le_refl _))⟩
     by_cases h0:x2=0
     ·rw [if_pos h0] at HY
      have hz:(x2 == 0)=true:=by simpa using h0
      obtain ⟨y3,hye3⟩ : ∃ y,y=2*x3:=⟨_,rfl⟩
      rw [← hye3] at HY
      have hw3:wrap64 (x3*2)=y3:=by rw [hye3];have:=HBD.out h0;unfold wrap64;simp only at this;omega
      clear h0 hye3
      go_upto_region 20 with (fail)
      clear hx0 hx1 hx2 hx3
      obtain ⟨b8,hb8⟩ : ∃ b8,b8=wr.heap.size:=⟨_,rfl⟩
      rw [← hb8] at Y1 ⊢
      have HB8:=aK hb8
      clear hb8
      generalize hV8:wr.alloc (.cells #[.int .i64 x0,.int .i64 x1,.int .i64 x2,.int .i64 x3] 45)=V8 at *
      clear hV8
      have z2:=(blk_cell Y1.out 2).trans rfl
      have z3:=(blk_cell Y1.out 3).trans rfl
      have zf:=blk_frozen Y1.out 3
      go_upto_region 22 with (fail)
      clear z2 z3 zf
      have HBZ:=aK (show Below wr.heap.size wr (V8.setCell ⟨b8,3,none⟩ (.int .i64 y3)).drew by rw [HB8.out];exact HBB.out (.int .i64 y3))
      have I0:=aK (I.out.ofBelow HBZ.out)
      have Y0:=aK (blk_drew (blk_put Y1.out 3 (.int .i64 y3) rfl))
      have P0:=aK ((HBZ.out.cell (World.block_lt_of_cell? _ _ HY.out.1)).trans HY.out.1)
      have P1:=aK ((HBZ.out.cell (World.block_lt_of_cell? _ _ HY.out.2.1)).trans HY.out.2.1)
      have P2:=aK ((HBZ.out.cell (World.block_lt_of_cell? _ _ HY.out.2.2.1)).trans HY.out.2.2.1)
      have P3:=aK ((HBZ.out.cell (World.block_lt_of_cell? _ _ HY.out.2.2.2)).trans HY.out.2.2.2)
      rw [E2.out] at I0
      refine start_ (n:=7) (S:=fun w'=>w'.cell? ⟨b5,2,none⟩=some (.slice (some ad2) rs.length c6)∧w'.cell? (ad2.add (i*4))=some (.int .i64 x0)∧w'.cell? ⟨(ad2.add (i*4)).block,(ad2.add (i*4)).off+1,none⟩=some (.int .i64 x1)∧w'.cell? ⟨(ad2.add (i*4)).block,(ad2.add (i*4)).off+2,none⟩=some (.int .i64 x2)∧w'.cell? ⟨(ad2.add (i*4)).block,(ad2.add (i*4)).off+3,none⟩=some (.int .i64 y3)∧w'.cell? ⟨b8,0,none⟩=some (.int .i64 x0)∧w'.cell? ⟨b8,1,none⟩=some (.int .i64 x1)∧w'.cell? ⟨b8,2,none⟩=some (.int .i64 x2)∧w'.cell? ⟨b8,3,none⟩=some (.int .i64 y3)) (ds:=[]) #[false,false,false,false,false,false,false] (by kernel_rfl) rfl rfl ⟨(blk_cell I0.out.bo 2).trans rfl,P0.out,P1.out,P2.out,P3.out,(blk_cell Y0.out 0).trans rfl,(blk_cell Y0.out 1).trans rfl,(blk_cell Y0.out 2).trans rfl,(blk_cell Y0.out 3).trans rfl⟩ (fun hHeld=>?_)
      refine pu 0 (some 127) ?_ rfl rfl (by kernel_rfl) (fun _ _ _ h=>h) (.inl ⟨by rfl,?_⟩) ?_ ?_ ?_;rotate_left;intro w';go_simp;with_reducible rfl;rotate_left;simp only [nS];rfl
      refine pu 2 (some 129) ?_ rfl rfl (by kernel_rfl) (fun _ _ _ h=>h) (.inl ⟨by rfl,?_⟩) ?_ ?_ ?_;rotate_left;intro w';go_simp;with_reducible rfl;rotate_left;simp only [nS];rfl
      refine tk 1 (some 128) ?_ rfl rfl (by kernel_rfl) (fun _ _ _ h=>h) (.inl ⟨by rfl,?_⟩) hHeld ?_ ?_ ?_;rotate_left;rintro w' ⟨s0,s1,s2,s3,s4,s5,s6,s7,s8⟩;go_simp;with_reducible rfl;rotate_left;simp only [nS];rfl
      refine pu 3 (some 130) ?_ rfl rfl (by kernel_rfl) (fun _ _ _ h=>h) (.inl ⟨by rfl,?_⟩) ?_ ?_ ?_;rotate_left;intro w';go_simp;with_reducible rfl;rotate_left;simp only [nS];rfl
      refine tk 4 (some 131) ?_ rfl rfl (by kernel_rfl) (fun _ _ _ h=>h) (.inl ⟨by rfl,?_⟩) hHeld ?_ ?_ ?_;rotate_left;rintro w' ⟨s0,s1,s2,s3,s4,s5,s6,s7,s8⟩;go_simp;with_reducible rfl;rotate_left;simp only [nS];rfl
      refine tk 5 (some 132) ?_ rfl rfl (by kernel_rfl) (fun _ _ _ h=>h) (.inl ⟨by rfl,?_⟩) hHeld ?_ ?_ ?_;rotate_left;rintro w' ⟨s0,s1,s2,s3,s4,s5,s6,s7,s8⟩;go_simp;with_reducible rfl;rotate_left;simp only [nS];rfl
      refine pu 6 (some 133) ?_ rfl rfl (by kernel_rfl) (fun _ _ _ h=>h) (.inl ⟨by rfl,?_⟩) ?_ ?_ ?_;rotate_left;intro w';go_simp;with_reducible rfl;rotate_left;simp only [nS];rfl
      refine done_ (by kernel_rfl) ?_
      go_wp2
      go_roundg (rs.length-(i+1))
      case measure=>omega
      case rel=>exact ⟨i+1,by omega,by omega,by first|exact congrArg (Value.int .i64) HSTEP.out|go_num,⟨by rw [E2.out];exact I0.out⟩⟩
     ·rw [if_neg h0] at HY
      have hz:(x2 == 0)=false:=by simpa using h0
      clear h0
      go_upto_region 20 with (fail)
      clear hx0 hx1 hx2 hx3
      obtain ⟨b8,hb8⟩ : ∃ b8,b8=wr.heap.size:=⟨_,rfl⟩
      rw [← hb8] at Y1 ⊢
      have HB8:=aK hb8
      clear hb8
      generalize hV8:wr.alloc (.cells #[.int .i64 x0,.int .i64 x1,.int .i64 x2,.int .i64 x3] 45)=V8 at *
      clear hV8
      have z2:=(blk_cell Y1.out 2).trans rfl
      go_upto_region 22 with (fail)
      clear z2
      have HBZ:=aK (HBA.out)
      have I0:=aK (I.out.ofBelow HBZ.out)
      have Y0:=aK (blk_drew Y1.out)
      have P0:=aK ((HBZ.out.cell (World.block_lt_of_cell? _ _ HY.out.1)).trans HY.out.1)
      have P1:=aK ((HBZ.out.cell (World.block_lt_of_cell? _ _ HY.out.2.1)).trans HY.out.2.1)
      have P2:=aK ((HBZ.out.cell (World.block_lt_of_cell? _ _ HY.out.2.2.1)).trans HY.out.2.2.1)
      have P3:=aK ((HBZ.out.cell (World.block_lt_of_cell? _ _ HY.out.2.2.2)).trans HY.out.2.2.2)
      rw [E2.out] at I0
      refine start_ (n:=7) (S:=fun w'=>w'.cell? ⟨b5,2,none⟩=some (.slice (some ad2) rs.length c6)∧w'.cell? (ad2.add (i*4))=some (.int .i64 x0)∧w'.cell? ⟨(ad2.add (i*4)).block,(ad2.add (i*4)).off+1,none⟩=some (.int .i64 x1)∧w'.cell? ⟨(ad2.add (i*4)).block,(ad2.add (i*4)).off+2,none⟩=some (.int .i64 x2)∧w'.cell? ⟨(ad2.add (i*4)).block,(ad2.add (i*4)).off+3,none⟩=some (.int .i64 x3)∧w'.cell? ⟨b8,0,none⟩=some (.int .i64 x0)∧w'.cell? ⟨b8,1,none⟩=some (.int .i64 x1)∧w'.cell? ⟨b8,2,none⟩=some (.int .i64 x2)∧w'.cell? ⟨b8,3,none⟩=some (.int .i64 x3)) (ds:=[]) #[false,false,false,false,false,false,false] (by kernel_rfl) rfl rfl ⟨(blk_cell I0.out.bo 2).trans rfl,P0.out,P1.out,P2.out,P3.out,(blk_cell Y0.out 0).trans rfl,(blk_cell Y0.out 1).trans rfl,(blk_cell Y0.out 2).trans rfl,(blk_cell Y0.out 3).trans rfl⟩ (fun hHeld=>?_)
      refine pu 0 (some 127) ?_ rfl rfl (by kernel_rfl) (fun _ _ _ h=>h) (.inl ⟨by rfl,?_⟩) ?_ ?_ ?_;rotate_left;intro w';go_simp;with_reducible rfl;rotate_left;simp only [nS];rfl
      refine pu 2 (some 129) ?_ rfl rfl (by kernel_rfl) (fun _ _ _ h=>h) (.inl ⟨by rfl,?_⟩) ?_ ?_ ?_;rotate_left;intro w';go_simp;with_reducible rfl;rotate_left;simp only [nS];rfl
      refine tk 1 (some 128) ?_ rfl rfl (by kernel_rfl) (fun _ _ _ h=>h) (.inl ⟨by rfl,?_⟩) hHeld ?_ ?_ ?_;rotate_left;rintro w' ⟨s0,s1,s2,s3,s4,s5,s6,s7,s8⟩;go_simp;with_reducible rfl;rotate_left;simp only [nS];rfl
      refine pu 3 (some 130) ?_ rfl rfl (by kernel_rfl) (fun _ _ _ h=>h) (.inl ⟨by rfl,?_⟩) ?_ ?_ ?_;rotate_left;intro w';go_simp;with_reducible rfl;rotate_left;simp only [nS];rfl
      refine tk 4 (some 131) ?_ rfl rfl (by kernel_rfl) (fun _ _ _ h=>h) (.inl ⟨by rfl,?_⟩) hHeld ?_ ?_ ?_;rotate_left;rintro w' ⟨s0,s1,s2,s3,s4,s5,s6,s7,s8⟩;go_simp;with_reducible rfl;rotate_left;simp only [nS];rfl
      refine tk 5 (some 132) ?_ rfl rfl (by kernel_rfl) (fun _ _ _ h=>h) (.inl ⟨by rfl,?_⟩) hHeld ?_ ?_ ?_;rotate_left;rintro w' ⟨s0,s1,s2,s3,s4,s5,s6,s7,s8⟩;go_simp;with_reducible rfl;rotate_left;simp only [nS];rfl
      refine pu 6 (some 133) ?_ rfl rfl (by kernel_rfl) (fun _ _ _ h=>h) (.inl ⟨by rfl,?_⟩) ?_ ?_ ?_;rotate_left;intro w';go_simp;with_reducible rfl;rotate_left;simp only [nS];rfl
      refine done_ (by kernel_rfl) ?_
      go_wp2
      go_roundg (rs.length-(i+1))
      case measure=>omega
      case rel=>exact ⟨i+1,by omega,by omega,by first|exact congrArg (Value.int .i64) HSTEP.out|go_num,⟨by rw [E2.out];exact I0.out⟩⟩
    ·have hlti : ¬ (i:Int)<(rs.length:Int):=by omega
     obtain rfl:i=rs.length:=by omega
     go_wp2
     go_meet
     case rel=>exact I
  case rest =>
   have HB:=aK hcut.out.below
   clear I8
   go_wp2_with fail
   refine (fleuronlaw27_awake.calls true _ rfl).mono ?_
   rintro e WZ ⟨rfl,hbz⟩
   go_wp2
   go_ret
   exact ⟨rfl,below_step HB.out hbz⟩
end Go.Proofs.YtoemkemmiikhlaaGreat.PF1
