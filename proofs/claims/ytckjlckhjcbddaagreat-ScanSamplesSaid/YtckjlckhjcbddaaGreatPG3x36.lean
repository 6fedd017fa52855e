import Derived.Test.YtckjlckhjcbddaaGreatPG3x0
import Derived.Test.YtckjlckhjcbddaaGreatPG3x3
import Derived.Test.YtckjlckhjcbddaaGreatPG3x7
import Derived.Test.YtckjlckhjcbddaaGreatPG3x8
import Derived.Test.YtckjlckhjcbddaaGreatPG3x9
import Derived.Test.YtckjlckhjcbddaaGreatPG3x10
set_option maxRecDepth 100000
namespace Go.Proofs.YtckjlckhjcbddaaGreat.PG3
open Go.RowKit Go.Proofs.YtckjlckhjcbddaaGreatW.PrintWords Go.Proofs.YtckjlckhjcbddaaGreatW.PrintLast Go.Proofs.YtckjlckhjcbddaaGreatW.PrintMore
attribute [local go_sem] max2_int min2_int max_two min_two max_three min_three max_four min_four
set_option linter.unusedVariables false
set_option linter.unusedSimpArgs false
def wind_same.f (a0:Int):Option (Int):=some a0
set_option maxHeartbeats 8000000 in
theorem wind_same.calls (a0:Int) (r:Int) (w:World) (h:wind_same.f a0=some r) :
  Calls Tryz.prog 92 #[.int .i64 a0] w fun e w'=>e = .returned (.int .i64 r)∧Drawn0 w w':=by
 have H:(some a0)=some r:=h
 clear h
 obtain rfl:=Option.some.inj H
 go_enter Tryz.func92,Tryz.ntmps92
 go_wp2
 go_ret
 exact ⟨by first|rfl|(simp;done)|(simp [*];done),by repeat (first|exact Drawn0.refl _|apply Drawn0.step)⟩
def wind_Winding.f (l0:List S47) (a1_0 a1_1:Int):Option (Int×Int):=if l0.length≤9223372036854775807 then some (countB l0 ⟨a1_0,a1_1⟩ 1 id) else none
set_option maxHeartbeats 2000000 in
theorem wind_Winding.calls (A0:Option Addr) (c0:Nat) (l0:List S47) (a1_0 a1_1:Int) (r1 r2:Int) (w:World) (hr0:Kd.C k47 w A0 l0.length l0) (hc0:l0.length≤c0) (h:wind_Winding.f l0 a1_0 a1_1=some (r1,r2)) :
  Calls Tryz.prog 61 #[.slice A0 l0.length c0,.agg #[.int .i64 a1_0,.int .i64 a1_1]] w fun e w'=>e = .returned (.tuple #[.int .i64 r1,.int .i64 r2])∧Below w.heap.size w w':=by
 unfold wind_Winding.f at h
 by_cases hl:l0.length≤9223372036854775807
 ·rw [if_pos hl] at h
  injection h with h
  have hu:=Tryz.underlying47
  have hc:=fun V hr=>count_calls 92 id (enters_own Tryz.func92 (by kernel_rfl) rfl) (fun W x=>wind_same.calls x _ W rfl) (by simp <;> omega) A0 c0 l0 ⟨a1_0,a1_1⟩ 1 V hr hc0 hl
  rw [h] at hc
  have HC:=aK hc
  have HR:=aK hr0
  have HB:=aK (below_alloc (Below.refl w.heap.size w) (.cells #[.int .i64 a1_0,.int .i64 a1_1] 47))
  clear h hc hr0
  go_enter Tryz.func61,Tryz.ntmps61
  go_wp2_with fail
  refine (HC.out _ (Kd.C_below HR.out HB.out)).mono ?_
  rintro e W1 ⟨rfl,hb1⟩
  have HB1:=aK (below_step HB.out hb1)
  clear hb1 HC
  go_wp2
  go_ret2
  exact ⟨rfl,HB1.out⟩
 ·rw [if_neg hl] at h
  exact absurd h (by simp)
def wind_one.f (a0:Int):Option (Int):=some 1
set_option maxHeartbeats 8000000 in
theorem wind_one.calls (a0:Int) (r:Int) (w:World) (h:wind_one.f a0=some r) :
  Calls Tryz.prog 93 #[.int .i64 a0] w fun e w'=>e = .returned (.int .i64 r)∧Drawn0 w w':=by
 have H:(some 1)=some r:=h
 clear h
 obtain rfl:=Option.some.inj H
 go_enter Tryz.func93,Tryz.ntmps93
 go_wp2
 go_ret
 exact ⟨by first|rfl|(simp;done)|(simp [*];done),by repeat (first|exact Drawn0.refl _|apply Drawn0.step)⟩
def wind_Crossings.f (l0:List S47) (a1_0 a1_1:Int):Option (Int×Int):=if l0.length≤9223372036854775807 then some (countB l0 ⟨a1_0,a1_1⟩ 1 (fun _=>1)) else none
set_option maxHeartbeats 2000000 in
theorem wind_Crossings.calls (A0:Option Addr) (c0:Nat) (l0:List S47) (a1_0 a1_1:Int) (r1 r2:Int) (w:World) (hr0:Kd.C k47 w A0 l0.length l0) (hc0:l0.length≤c0) (h:wind_Crossings.f l0 a1_0 a1_1=some (r1,r2)) :
  Calls Tryz.prog 62 #[.slice A0 l0.length c0,.agg #[.int .i64 a1_0,.int .i64 a1_1]] w fun e w'=>e = .returned (.tuple #[.int .i64 r1,.int .i64 r2])∧Below w.heap.size w w':=by
 unfold wind_Crossings.f at h
 by_cases hl:l0.length≤9223372036854775807
 ·rw [if_pos hl] at h
  injection h with h
  have hu:=Tryz.underlying47
  have hc:=fun V hr=>count_calls 93 (fun _=>1) (enters_own Tryz.func93 (by kernel_rfl) rfl) (fun W x=>wind_one.calls x _ W rfl) (by simp <;> omega) A0 c0 l0 ⟨a1_0,a1_1⟩ 1 V hr hc0 hl
  rw [h] at hc
  have HC:=aK hc
  have HR:=aK hr0
  have HB:=aK (below_alloc (Below.refl w.heap.size w) (.cells #[.int .i64 a1_0,.int .i64 a1_1] 47))
  clear h hc hr0
  go_enter Tryz.func62,Tryz.ntmps62
  go_wp2_with fail
  refine (HC.out _ (Kd.C_below HR.out HB.out)).mono ?_
  rintro e W1 ⟨rfl,hb1⟩
  have HB1:=aK (below_step HB.out hb1)
  clear hb1 HC
  go_wp2
  go_ret2
  exact ⟨rfl,HB1.out⟩
 ·rw [if_neg hl] at h
  exact absurd h (by simp)
mutual
def wind_Inside.j0:Nat→List (List (S47))→Bool→Bool→Int→Int→Option (Bool×Int)
 | 0,_,_,_,_,_=>none
 | k+1,x0,x1,x23,x381000,x381001=>if x23=true then (some (false,2)) else (wind_Inside.l0 k x1 0 0 x0 (x0.length:Int) 0 x381000 x381001)
def wind_Inside.l0:Nat→Bool→Int→Int→List (List (S47))→Int→Int→Int→Int→Option (Bool×Int)
 | 0,_,_,_,_,_,_,_,_=>none
 | k+1,x1,x8,x9,x24,x25,x26,x381000,x381001=>if x26<x25 then (if 0≤x26 then (if x26<(x24.length:Int) then ((wind_Winding.f (rd_L2 x24 x26) x381000 x381001).bind fun bt384=>((wind_Crossings.f (rd_L2 x24 x26) x381000 x381001).bind fun bt386=>(wind_Inside.l0 k x1 (wrap64 (x8+bt384.1)) (wrap64 (x9+bt386.1)) x24 x25 (wrap64 (x26+1)) x381000 x381001))) else (none)) else (none)) else (if x1=true then (some (((Int.tmod x9 2) == 1),0)) else (some ((x8 != 0),0)))
end
def wind_Inside.f (k:Nat) (l0:List (List (S47))) (a1:Bool) (a2_0:Int) (a2_1:Int):Option (Bool×Int):=(wind_ValidAll.f k l0).bind fun t381=>(if t381=true then ((flat_IsPoint.f a2_0 a2_1).bind fun t382=>(wind_Inside.j0 k l0 a1 (!t382) a2_0 a2_1)) else (wind_Inside.j0 k l0 a1 true a2_0 a2_1))
theorem wind_Inside.mono_l : ∀ k,(∀ y0 y1 y2 y3 y4,LeO (wind_Inside.j0 k y0 y1 y2 y3 y4) (wind_Inside.j0 (k+1) y0 y1 y2 y3 y4))∧(∀ y0 y1 y2 y3 y4 y5 y6 y7,LeO (wind_Inside.l0 k y0 y1 y2 y3 y4 y5 y6 y7) (wind_Inside.l0 (k+1) y0 y1 y2 y3 y4 y5 y6 y7))
 | 0=>⟨fun _ _ _ _ _ r h=>by simp [wind_Inside.j0] at h,fun _ _ _ _ _ _ _ _ r h=>by simp [wind_Inside.l0] at h⟩
 | k+1=>by
  obtain ⟨ih0,ih1⟩:=wind_Inside.mono_l k
  refine ⟨?_,?_⟩
  ·intro y0 y1 y2 y3 y4
   unfold wind_Inside.j0
   repeat' first
   | (with_reducible exact ih0 _ _ _ _ _)
   | (with_reducible exact ih1 _ _ _ _ _ _ _ _)
   | (with_reducible exact wind_ValidAll.mono _ _)
   | (with_reducible exact LeO.refl _)
   | (with_reducible exact LeO.none _)
   | (with_reducible refine LeO.ite ?_ ?_)
   | (with_reducible refine LeO.bind ?_ (fun _=>?_))
   | exact ih0 _ _ _ _ _
   | exact ih1 _ _ _ _ _ _ _ _
   | exact wind_ValidAll.mono _ _
   | exact LeO.none _
   | refine LeO.ite ?_ ?_
   | refine LeO.bind ?_ (fun _=>?_)
  ·intro y0 y1 y2 y3 y4 y5 y6 y7
   unfold wind_Inside.l0
   repeat' first
   | (with_reducible exact ih0 _ _ _ _ _)
   | (with_reducible exact ih1 _ _ _ _ _ _ _ _)
   | (with_reducible exact wind_ValidAll.mono _ _)
   | (with_reducible exact LeO.refl _)
   | (with_reducible exact LeO.none _)
   | (with_reducible refine LeO.ite ?_ ?_)
   | (with_reducible refine LeO.bind ?_ (fun _=>?_))
   | exact ih0 _ _ _ _ _
   | exact ih1 _ _ _ _ _ _ _ _
   | exact wind_ValidAll.mono _ _
   | exact LeO.none _
   | refine LeO.ite ?_ ?_
   | refine LeO.bind ?_ (fun _=>?_)
theorem wind_Inside.mono : ∀ a0 a1 a2 a3 k,LeO (wind_Inside.f k a0 a1 a2 a3) (wind_Inside.f (k+1) a0 a1 a2 a3):=by
 intro a0 a1 a2 a3 k
 obtain ⟨ih0,ih1⟩:=wind_Inside.mono_l k
 unfold wind_Inside.f
 repeat' first
   | (with_reducible exact ih0 _ _ _ _ _)
   | (with_reducible exact ih1 _ _ _ _ _ _ _ _)
   | (with_reducible exact wind_ValidAll.mono _ _)
   | (with_reducible exact LeO.refl _)
   | (with_reducible exact LeO.none _)
   | (with_reducible refine LeO.ite ?_ ?_)
   | (with_reducible refine LeO.bind ?_ (fun _=>?_))
   | exact ih0 _ _ _ _ _
   | exact ih1 _ _ _ _ _ _ _ _
   | exact wind_ValidAll.mono _ _
   | exact LeO.none _
   | refine LeO.ite ?_ ?_
   | refine LeO.bind ?_ (fun _=>?_)
set_option maxHeartbeats 8000000 in
theorem wind_Inside.calls (k:Nat) (A0:Option Addr) (c0:Nat) (l0:List (List (S47))) (a1:Bool) (a2_0:Int) (a2_1:Int) (r1:Bool) (r2:Int) (w:World) (hr0:Kd.C (Kd.slice 47 k47) w A0 l0.length l0) (hc0:l0.length≤c0) (h:wind_Inside.f k l0 a1 a2_0 a2_1=some (r1,r2)) :
  Calls Tryz.prog 30 #[.slice A0 l0.length c0,.bool a1,.agg #[.int .i64 a2_0,.int .i64 a2_1]] w fun e w'=>e = .returned (.tuple #[.bool r1,.int .i64 r2])∧Below w.heap.size w w':=by
 have hu47:=Tryz.underlying47
 have HR0:=aK hr0
 have HC0:=aK hc0
 clear hr0 hc0
 have HB:=aK (Below.refl w.heap.size w)
 have H:((wind_ValidAll.f k l0).bind fun t381=>(if t381=true then ((flat_IsPoint.f a2_0 a2_1).bind fun t382=>(wind_Inside.j0 k l0 a1 (!t382) a2_0 a2_1)) else (wind_Inside.j0 k l0 a1 true a2_0 a2_1)))=some (r1,r2):=h
 clear h
 have HC4:=aK H
 clear H
 go_enter Tryz.func30,Tryz.ntmps30
 go_upto_region 1 with ((with_reducible refine gate_dst (N:=5) rfl ?_);refine box_event ?hg (N:=5) ?hd (cs:=#[.int .i64 a2_0,.int .i64 a2_1]) (t:=47) ?hr ?_;(case hd=>rfl);(case hg=>rfl);(case hr=>first|(go_simp;done)|(go_simp;rfl));intro gb380 hg w5 hbox hb;have n0_:=aK (below_step (by repeat (first|(with_reducible first|exact HB.out|apply below_alloc|apply pw_below_drewN|apply below_drew1)|exact HB.out)) hb);have n1_:=aK (hbox);have n2_:=aK ((by rw [hg];exact (below_size (by repeat (first|(with_reducible first|exact HB.out|apply below_alloc|apply pw_below_drewN|apply below_drew1)|exact HB.out))):w.heap.size≤gb380));have n3_:=n2_;clear HB;have HB:=n0_;have BK380:=n1_;have GW380:=n2_;have GE380:=n3_;clear n0_ n1_ n2_ n3_;clear hb hbox hg)
 (try simp only [Act.put,lS])
 go_cut [23] (fun v23 wc=>∃ (kq:Nat) (x23_3:Bool),v23 = .bool x23_3∧Aside0 (wind_Inside.j0 kq l0 a1 x23_3 a2_0 a2_1=some (r1,r2))∧Aside0 (kq≤k)∧Aside0 (wc.heap[gb380]?=some (.cells #[.int .i64 a2_0,.int .i64 a2_1] 47 (0,0)))∧Aside0 (Below w.heap.size w wc))
 case first =>
  have H:=HC4.out
  clear HC4
  replace H:=Option.bind_eq_some_iff.mp H
  obtain ⟨t381,A60,H⟩:=H
  replace H:(if t381=true then ((flat_IsPoint.f a2_0 a2_1).bind fun t382=>(wind_Inside.j0 k l0 a1 (!t382) a2_0 a2_1)) else (wind_Inside.j0 k l0 a1 true a2_0 a2_1))=some (r1,r2):=H
  have A6:=aK A60
  clear A60
  by_cases c7:t381=true
  ·subst c7
   have H1:((flat_IsPoint.f a2_0 a2_1).bind fun t382=>(wind_Inside.j0 k l0 a1 (!t382) a2_0 a2_1))=some (r1,r2):=by rw [if_pos rfl] at H;exact H
   clear H
   have H:=H1
   clear H1
   replace H:=Option.bind_eq_some_iff.mp H
   obtain ⟨t382,A80,H⟩:=H
   replace H:(wind_Inside.j0 k l0 a1 (!t382) a2_0 a2_1)=some (r1,r2):=H
   have A8:=aK A80
   clear A80
   have H':=aK H
   clear H
   go_wp2_with (first|((with_reducible refine gate_callee (f:=33) rfl ?_);refine goesL_ (some 17) rfl rfl Tryz.func33 (by kernel_rfl) rfl #[.slice A0 l0.length c0] rfl (by (try simp only [List.map_toArray,List.map_cons,List.map_nil]);first|done|rfl|(simp only [List.length_drop,List.length_take];rfl)) ?_;(with_reducible refine (wind_ValidAll.calls k _ _ l0 true _ ?side1 ?side2 A6.out).mono ?_);(case side1=>repeat (first|exact (Kd.C_below HR0.out HB.out)|(with_reducible refine Kd.C_alloc ?_ _)|(with_reducible refine Kd.C_drewN ?_ _)|(with_reducible refine Kd.C_drew ?_)));(case side2=>exact HC0.out);rintro e w9 ⟨rfl,hb⟩;refine ⟨_,rfl,?_⟩;have n0_:=aK (blk_below (g:=gb380) (o:=.cells #[.int .i64 a2_0,.int .i64 a2_1] 47 (0,0)) (by (with_reducible repeat (first|refine blk_drewN ?_ _|refine blk_drew ?_|refine blk_alloc ?_ _));exact BK380.out) hb);have n1_:=aK (below_step (by repeat (first|(with_reducible first|exact HB.out|apply below_alloc|apply pw_below_drewN|apply below_drew1|refine below_set ?_ GE380.out)|exact HB.out)) hb);clear BK380;clear HB;have BK380:=n0_;have HB:=n1_;clear n0_ n1_;(try clear hb);(try clear hb2);(try clear hk);(try clear hi);have hcz10_0:w9.cell? ⟨gb380,0,none⟩=some (.int .i64 a2_0):=(blk_cell BK380.out 0).trans rfl;have hcz10_1:w9.cell? ⟨gb380,1,none⟩=some (.int .i64 a2_1):=(blk_cell BK380.out 1).trans rfl;have hfz10_0:=blk_frozen BK380.out 0;have hfz10_1:=blk_frozen BK380.out 1)|(go_at_call 60;(with_reducible refine (flat_IsPoint.calls a2_0 a2_1 t382 _ A8.out).mono ?_);rintro e w11 ⟨rfl,hb⟩;have n0_:=aK (blk_below (g:=gb380) (o:=.cells #[.int .i64 a2_0,.int .i64 a2_1] 47 (0,0)) (by (with_reducible repeat (first|refine blk_drewN ?_ _|refine blk_drew ?_|refine blk_alloc ?_ _));exact BK380.out) hb);have n1_:=aK (below_step (by repeat (first|(with_reducible first|exact HB.out|apply below_alloc|apply pw_below_drewN|apply below_drew1|refine below_set ?_ GE380.out)|exact HB.out)) hb);clear BK380;clear HB;have BK380:=n0_;have HB:=n1_;clear n0_ n1_;(try clear hb);(try clear hb2);(try clear hk);(try clear hi)))
   go_meet
   case rel=>exact ⟨_,(!t382),(by first|rfl|(simp;done)|(simp [*];done)),H',⟨by first|omega|exact Nat.le_refl _⟩,⟨by (with_reducible repeat (first|refine blk_drewN ?_ _|refine blk_drew ?_|refine blk_alloc ?_ _));exact BK380.out⟩,⟨by repeat (first|(with_reducible first|exact HB.out|apply below_alloc|apply pw_below_drewN|apply below_drew1|refine below_set ?_ GE380.out)|exact HB.out)⟩⟩
  ·replace c7:=Bool.eq_false_iff.mpr c7
   subst c7
   have H1:(wind_Inside.j0 k l0 a1 true a2_0 a2_1)=some (r1,r2):=by rw [if_neg (show ¬ (false=true) by decide)] at H;exact H
   clear H
   have H:=H1
   clear H1
   have H':=aK H
   clear H
   go_wp2_with ((with_reducible refine gate_callee (f:=33) rfl ?_);refine goesL_ (some 17) rfl rfl Tryz.func33 (by kernel_rfl) rfl #[.slice A0 l0.length c0] rfl (by (try simp only [List.map_toArray,List.map_cons,List.map_nil]);first|done|rfl|(simp only [List.length_drop,List.length_take];rfl)) ?_;(with_reducible refine (wind_ValidAll.calls k _ _ l0 false _ ?side1 ?side2 A6.out).mono ?_);(case side1=>repeat (first|exact (Kd.C_below HR0.out HB.out)|(with_reducible refine Kd.C_alloc ?_ _)|(with_reducible refine Kd.C_drewN ?_ _)|(with_reducible refine Kd.C_drew ?_)));(case side2=>exact HC0.out);rintro e w12 ⟨rfl,hb⟩;refine ⟨_,rfl,?_⟩;have n0_:=aK (blk_below (g:=gb380) (o:=.cells #[.int .i64 a2_0,.int .i64 a2_1] 47 (0,0)) (by (with_reducible repeat (first|refine blk_drewN ?_ _|refine blk_drew ?_|refine blk_alloc ?_ _));exact BK380.out) hb);have n1_:=aK (below_step (by repeat (first|(with_reducible first|exact HB.out|apply below_alloc|apply pw_below_drewN|apply below_drew1|refine below_set ?_ GE380.out)|exact HB.out)) hb);clear BK380;clear HB;have BK380:=n0_;have HB:=n1_;clear n0_ n1_;(try clear hb);(try clear hb2);(try clear hk);(try clear hi))
   go_meet
   case rel=>exact ⟨_,(true),(by first|rfl|(simp;done)|(simp [*];done)),H',⟨by first|omega|exact Nat.le_refl _⟩,⟨by (with_reducible repeat (first|refine blk_drewN ?_ _|refine blk_drew ?_|refine blk_alloc ?_ _));exact BK380.out⟩,⟨by repeat (first|(with_reducible first|exact HB.out|apply below_alloc|apply pw_below_drewN|apply below_drew1|refine below_set ?_ GE380.out)|exact HB.out)⟩⟩
 case rest =>
  clear HC4
  try clear p2
  try clear c3
  try clear c7
  try clear hcz10_0
  try clear hcz10_1
  try clear hfz10_0
  try clear hfz10_1
  obtain ⟨kq,x23_3,rfl,HA,HJ3,BK380,HB⟩:=hcut
  cases kq with
  | zero=>exact absurd HA.out (by simp [wind_Inside.j0])
  | succ kj3 =>
   have H:=HA.out
   clear HA
   simp only [wind_Inside.j0] at H
   by_cases c13:x23_3=true
   ·subst c13
    have H1:(some (false,2))=some (r1,r2):=by rw [if_pos rfl] at H;exact H
    clear H
    have H:=H1
    clear H1
    simp only [Option.some.injEq,Prod.mk.injEq] at H
    obtain ⟨rfl,rfl⟩:=H
    go_wp2
    go_ret2
    exact ⟨by first|rfl|(simp [errW_none,errW_some] <;> rfl)|(simp [*,errW_none,errW_some] <;> rfl),by repeat (first|(with_reducible first|exact HB.out|apply below_alloc|apply pw_below_drewN|apply below_drew1|refine below_set ?_ GE380.out)|exact HB.out)⟩
   ·replace c13:=Bool.eq_false_iff.mpr c13
    subst c13
    have H1:(wind_Inside.l0 kj3 a1 0 0 l0 (l0.length:Int) 0 a2_0 a2_1)=some (r1,r2):=by rw [if_neg (show ¬ (false=true) by decide)] at H;exact H
    clear H
    have H:=H1
    clear H1
    have H':=aK H
    clear H
    go_wp2
    go_loopg [8,9,26] kj3 (fun kq v8 v9 v26 w'=>∃ (x8_2:Int) (x9_2:Int) (x26_2:Int),v8 = .int .i64 x8_2∧v9 = .int .i64 x9_2∧v26 = .int .i64 x26_2∧Aside0 (wind_Inside.l0 kq a1 x8_2 x9_2 l0 (l0.length:Int) x26_2 a2_0 a2_1=some (r1,r2))∧Aside0 (kq≤kj3)∧Aside0 (w'.heap[gb380]?=some (.cells #[.int .i64 a2_0,.int .i64 a2_1] 47 (0,0)))∧Aside0 (Below w.heap.size w w'))
    case atStart=>exact ⟨(0),(0),(0),(by first|rfl|(simp;done)|(simp [*];done)),(by first|rfl|(simp;done)|(simp [*];done)),(by first|rfl|(simp;done)|(simp [*];done)),H',⟨Nat.le_refl _⟩,⟨by (with_reducible repeat (first|refine blk_drewN ?_ _|refine blk_drew ?_|refine blk_alloc ?_ _));exact BK380.out⟩,⟨by repeat (first|(with_reducible first|exact HB.out|apply below_alloc|apply pw_below_drewN|apply below_drew1|refine below_set ?_ GE380.out)|exact HB.out)⟩⟩
    case round =>
     clear H'
     try clear c1
     try clear p2
     try clear c3
     try clear c7
     try clear c13
     try clear hcz10_0
     try clear hcz10_1
     try clear hfz10_0
     try clear hfz10_1
     try clear p2
     obtain ⟨x8_2,x9_2,x26_2,rfl,rfl,rfl,HA,HK2,BK380,HB⟩:=hrel
     cases gk with
     | zero=>exact absurd HA.out (by simp [wind_Inside.l0])
     | succ k2 =>
      have H:=HA.out
      clear HA
      simp only [wind_Inside.l0] at H
      by_cases c14:x26_2<(l0.length:Int)
      ·rw [if_pos c14] at H
       have c14b0:decide (x26_2<(l0.length:Int))=true:=decide_eq_true c14
       clear c14
       by_cases c15:0≤x26_2
       ·rw [if_pos c15] at H
        have c15b0:decide (0≤x26_2)=true:=decide_eq_true c15
        clear c15
        by_cases c16:x26_2<(l0.length:Int)
        ·rw [if_pos c16] at H
         have c16b0:decide (x26_2<(l0.length:Int))=true:=decide_eq_true c16
         clear c16
         replace H:=Option.bind_eq_some_iff.mp H
         obtain ⟨⟨t384,t385⟩,A170,H⟩:=H
         replace H:((wind_Crossings.f (rd_L2 l0 x26_2) a2_0 a2_1).bind fun bt386=>(wind_Inside.l0 k2 a1 (wrap64 (x8_2+t384)) (wrap64 (x9_2+bt386.1)) l0 (l0.length:Int) (wrap64 (x26_2+1)) a2_0 a2_1))=some (r1,r2):=H
         have A17:=aK A170
         clear A170
         replace H:=Option.bind_eq_some_iff.mp H
         obtain ⟨⟨t386,t387⟩,A180,H⟩:=H
         replace H:(wind_Inside.l0 k2 a1 (wrap64 (x8_2+t384)) (wrap64 (x9_2+t386)) l0 (l0.length:Int) (wrap64 (x26_2+1)) a2_0 a2_1)=some (r1,r2):=H
         have A18:=aK A180
         clear A180
         have H':=aK H
         clear H
         have p383:0≤(x26_2:Int):=of_decide_eq_true (by first|(with_reducible assumption)|assumption)
         have q383:x26_2<(l0.length:Int):=of_decide_eq_true (by first|(with_reducible assumption)|assumption)
         obtain ⟨ad383,A383_0,c383_0,e383,hx383_0,hl383_0,hi383_0⟩:=at_L2 HR0.out x26_2 p383 q383
         cases e383
         replace hx383_0:=(HB.out.cell (World.block_lt_of_cell? w _ hx383_0)).trans hx383_0
         have HR383_0:=aK hi383_0
         have HC383_0:=aK hl383_0
         clear hi383_0 hl383_0
         replace p383:=eq_true p383
         replace q383:=eq_true q383
         have hcz19_0:wr.cell? ⟨gb380,0,none⟩=some (.int .i64 a2_0):=(blk_cell BK380.out 0).trans rfl
         have hcz19_1:wr.cell? ⟨gb380,1,none⟩=some (.int .i64 a2_1):=(blk_cell BK380.out 1).trans rfl
         have hfz19_0:=blk_frozen BK380.out 0
         have hfz19_1:=blk_frozen BK380.out 1
         go_wp2_with (first|((with_reducible refine gate_callee (f:=61) rfl ?_);refine goesL_ (some 33) rfl rfl Tryz.func61 (by kernel_rfl) rfl #[.slice A383_0 (rd_L2 l0 x26_2).length c383_0,.agg #[.int .i64 a2_0,.int .i64 a2_1]] rfl (by (try simp only [List.map_toArray,List.map_cons,List.map_nil]);first|done|rfl|(simp only [List.length_drop,List.length_take];rfl)) ?_;(with_reducible refine (wind_Winding.calls _ _ (rd_L2 l0 x26_2) a2_0 a2_1 t384 t385 _ ?side1 ?side2 A17.out).mono ?_);(case side1=>repeat (first|exact (Kd.C_below HR383_0.out HB.out)|(with_reducible refine Kd.C_alloc ?_ _)|(with_reducible refine Kd.C_drewN ?_ _)|(with_reducible refine Kd.C_drew ?_)));(case side2=>exact HC383_0.out);rintro e w20 ⟨rfl,hb⟩;refine ⟨_,rfl,?_⟩;have n0_:=aK (blk_below (g:=gb380) (o:=.cells #[.int .i64 a2_0,.int .i64 a2_1] 47 (0,0)) (by (with_reducible repeat (first|refine blk_drewN ?_ _|refine blk_drew ?_|refine blk_alloc ?_ _));exact BK380.out) hb);have n1_:=aK (below_step (by repeat (first|(with_reducible first|exact HB.out|apply below_alloc|apply pw_below_drewN|apply below_drew1|refine below_set ?_ GE380.out)|exact HB.out)) hb);clear BK380;clear HB;have BK380:=n0_;have HB:=n1_;clear n0_ n1_;(try clear hb);(try clear hb2);(try clear hk);(try clear hi);have hcz21_0:w20.cell? ⟨gb380,0,none⟩=some (.int .i64 a2_0):=(blk_cell BK380.out 0).trans rfl;have hcz21_1:w20.cell? ⟨gb380,1,none⟩=some (.int .i64 a2_1):=(blk_cell BK380.out 1).trans rfl;have hfz21_0:=blk_frozen BK380.out 0;have hfz21_1:=blk_frozen BK380.out 1)|((with_reducible refine gate_callee (f:=62) rfl ?_);refine goesL_ (some 39) rfl rfl Tryz.func62 (by kernel_rfl) rfl #[.slice A383_0 (rd_L2 l0 x26_2).length c383_0,.agg #[.int .i64 a2_0,.int .i64 a2_1]] rfl (by (try simp only [List.map_toArray,List.map_cons,List.map_nil]);first|done|rfl|(simp only [List.length_drop,List.length_take];rfl)) ?_;(with_reducible refine (wind_Crossings.calls _ _ (rd_L2 l0 x26_2) a2_0 a2_1 t386 t387 _ ?side1 ?side2 A18.out).mono ?_);(case side1=>repeat (first|exact (Kd.C_below HR383_0.out HB.out)|(with_reducible refine Kd.C_alloc ?_ _)|(with_reducible refine Kd.C_drewN ?_ _)|(with_reducible refine Kd.C_drew ?_)));(case side2=>exact HC383_0.out);rintro e w22 ⟨rfl,hb⟩;refine ⟨_,rfl,?_⟩;have n0_:=aK (blk_below (g:=gb380) (o:=.cells #[.int .i64 a2_0,.int .i64 a2_1] 47 (0,0)) (by (with_reducible repeat (first|refine blk_drewN ?_ _|refine blk_drew ?_|refine blk_alloc ?_ _));exact BK380.out) hb);have n1_:=aK (below_step (by repeat (first|(with_reducible first|exact HB.out|apply below_alloc|apply pw_below_drewN|apply below_drew1|refine below_set ?_ GE380.out)|exact HB.out)) hb);clear BK380;clear HB;have BK380:=n0_;have HB:=n1_;clear n0_ n1_;(try clear hb);(try clear hb2);(try clear hk);(try clear hi)))
         go_roundg k2
         case measure=>have:=HJ3.out;have:=HK2.out;omega
         case rel=>exact ⟨(wrap64 (x8_2+t384)),(wrap64 (x9_2+t386)),(wrap64 (x26_2+1)),(by first|rfl|(simp;done)|(simp [*];done)),(by first|rfl|(simp;done)|(simp [*];done)),(by first|rfl|(simp;done)|(simp [*];done)),H',⟨by have:=HJ3.out;have:=HK2.out;omega⟩,⟨by (with_reducible repeat (first|refine blk_drewN ?_ _|refine blk_drew ?_|refine blk_alloc ?_ _));exact BK380.out⟩,⟨by repeat (first|(with_reducible first|exact HB.out|apply below_alloc|apply pw_below_drewN|apply below_drew1|refine below_set ?_ GE380.out)|exact HB.out)⟩⟩
        ·rw [if_neg c16] at H
         exact absurd H (by simp)
       ·rw [if_neg c15] at H
        exact absurd H (by simp)
      ·rw [if_neg c14] at H
       have c14b0:decide (x26_2<(l0.length:Int))=false:=decide_eq_false c14
       clear c14
       by_cases c23:a1=true
       ·subst c23
        have H1:(some (((Int.tmod x9_2 2) == 1),0))=some (r1,r2):=by rw [if_pos rfl] at H;exact H
        clear H
        have H:=H1
        clear H1
        simp only [Option.some.injEq,Prod.mk.injEq] at H
        obtain ⟨rfl,rfl⟩:=H
        go_wp2
        go_ret2
        exact ⟨by first|rfl|(simp [errW_none,errW_some] <;> rfl)|(simp [*,errW_none,errW_some] <;> rfl),by repeat (first|(with_reducible first|exact HB.out|apply below_alloc|apply pw_below_drewN|apply below_drew1|refine below_set ?_ GE380.out)|exact HB.out)⟩
       ·replace c23:=Bool.eq_false_iff.mpr c23
        subst c23
        have H1:(some ((x8_2 != 0),0))=some (r1,r2):=by rw [if_neg (show ¬ (false=true) by decide)] at H;exact H
        clear H
        have H:=H1
        clear H1
        simp only [Option.some.injEq,Prod.mk.injEq] at H
        obtain ⟨rfl,rfl⟩:=H
        go_wp2
        go_ret2
        exact ⟨by first|rfl|(simp [errW_none,errW_some] <;> rfl)|(simp [*,errW_none,errW_some] <;> rfl),by repeat (first|(with_reducible first|exact HB.out|apply below_alloc|apply pw_below_drewN|apply below_drew1|refine below_set ?_ GE380.out)|exact HB.out)⟩
def pieces (l:List S47):Nat:=if l.length=1 then 1 else l.length-1
def pieceB (l:List S47) (i:Nat):S47:=if l.length=1 then rd_T47 l 0 else rd_T47 l ((i+1:Nat):Int)
theorem any_hit {f:Nat→Bool} {n i:Nat} (h:i<n) (hf:f i=true):(List.range n).any f=true:=List.any_eq_true.mpr ⟨i,List.mem_range.mpr h,hf⟩
theorem any_none {f:Nat→Bool} {n:Nat} (h : ∀ i,i<n→f i=false):(List.range n).any f=false:=by
 rw [List.any_eq_false]
 intro x hx
 rw [h x (List.mem_range.mp hx)];simp
set_option maxHeartbeats 4000000 in
theorem strokes_calls (g:Nat) (lb:Array Value) (bk bs:Nat) (o:Obj) (eg : ∀ args w,(callFunc g args).run Tryz.prog w = .ok (.enter g args) w) (hu:Nat→List S47) (hs:Nat→Bool)
  (A0:Option Addr) (c0:Nat) (l0:List S47) (A1:Option Addr) (c1:Nat) (l1:List S47) (w0 w:World) (hB:Below w0.heap.size w0 w) (hbk:w0.heap.size≤bk) (hne:bs≠bk)
  (hk:w.heap[bk]?=some (.cells #[.bool false] 4 (0,0))) (ho:w.heap[bs]?=some o)
  (hsw : ∀ i,i<pieces l1→pen_Swept.f (l0.length+5) l0 (rd_T47 l1 (i:Int)).f0 (rd_T47 l1 (i:Int)).f1 (pieceB l1 i).f0 (pieceB l1 i).f1=some (hu i))
  (hcall : ∀ (i:Nat) (W:World) (A:Option Addr) (c:Nat),i<pieces l1→W.heap[bk]?=some (.cells #[.bool false] 4 (0,0))→W.heap[bs]?=some o→Kd.C k47 W A (hu i).length (hu i)→(hu i).length≤c →
   Calls Tryz.prog g (#[.slice A (hu i).length c]++lb) W fun e w'=>e = .returned (.bool (!hs i))∧W.grownBy w' (some bk)∧w'.heap[bk]?=some (.cells #[.bool (hs i)] 4 (0,0)))
  (hr0:Kd.C k47 w0 A0 l0.length l0) (hc0:l0.length≤c0) (hr1:Kd.C k47 w0 A1 l1.length l1) (hc1:l1.length≤c1) (h1:1≤l1.length) (hlen:l1.length≤1000000000) :
  Calls Tryz.prog 63 #[.slice A0 l0.length c0,.slice A1 l1.length c1,.func (.func g) #[] lb] w fun e w'=>e = .returned (.tuple #[])∧Below w0.heap.size w0 w'∧w'.heap[bk]?=some (.cells #[.bool ((List.range (pieces l1)).any hs)] 4 (0,0)):=by
 have hu':=Tryz.underlying47
 have HR0:=aK hr0
 have HR1:=aK hr1
 have HC0:=aK hc0
 have HC1:=aK hc1
 have HBK:=aK (show w0.heap.size≤bk∧bs≠bk from ⟨hbk,hne⟩)
 have HL:=aK (show 1≤l1.length∧l1.length≤1000000000 from ⟨h1,hlen⟩)
 have HSW:=aK (fun i V (hi:i<pieces l1) hV=>pen_Swept.calls (l0.length+5) A0 c0 l0 _ _ _ _ (hu i) V (Kd.C_below hr0 hV) hc0 (hsw i hi))
 have HCALL:=aK hcall
 have HB:=aK hB
 have HK:=aK hk
 have HO:=aK ho
 have h0i:(0:Int)<(l1.length:Int):=by omega
 have h0n:0<l1.length:=by omega
 have hne1 : ¬ (l1=[]):=by rintro rfl;simp at h0n
 obtain ⟨ad,rfl,hx0,hx1⟩:=at_T47 hr1 0 (by omega) h0i
 have P1:=aK (show w.drew.cell? ad=some (.int .i64 (rd_T47 l1 0).f0) from (hB.cell (World.block_lt_of_cell? w0 _ hx0)).trans hx0)
 have P2:=aK (show w.drew.cell? ⟨ad.block,ad.off+1,none⟩=some (.int .i64 (rd_T47 l1 0).f1) from (hB.cell (World.block_lt_of_cell? w0 _ hx1)).trans hx1)
 clear hr0 hr1 hc0 hc1 hbk hne hsw hcall hB hk ho hx0 hx1 h1 hlen
 by_cases hone:l1.length=1
 ·have hb:((l1.length:Int) == 1)=true:=by rw [hone];rfl
  have hpc:pieces l1=1:=by unfold pieces;rw [if_pos hone]
  have hsw0:=HSW.out 0
  have hc0':=HCALL.out 0
  have hpb:pieceB l1 0=rd_T47 l1 0:=by unfold pieceB;rw [if_pos hone]
  simp only [hpc,hpb,Int.ofNat_zero,Nat.zero_lt_one,forall_const,true_implies] at hsw0 hc0'
  have hany:(List.range (pieces l1)).any hs=hs 0:=by rw [hpc];simp
  rw [hany]
  have HS0:=aK hsw0
  have HC0':=aK hc0'
  generalize rd_T47 l1 0=x at *
  have BD:=aK (below_drew1 HB.out)
  have KD:=aK (blk_drew HK.out)
  have OD:=aK (blk_drew HO.out)
  clear hsw0 hc0' hpc hpb hany hone HSW HCALL
  go_enter Tryz.func63,Tryz.ntmps63
  go_wp2
  refine start_ (n:=10) (S:=fun w'=>w'.cell? ad=some (.int .i64 x.f0)∧w'.cell? ⟨ad.block,ad.off+1,none⟩=some (.int .i64 x.f1)∧Below w0.heap.size w0 w'∧w'.heap[bk]?=some (.cells #[.bool false] 4 (0,0))∧w'.heap[bs]?=some o) (ds:=[9]) #[false,false,false,false,false,false,false,false,false,false] (by kernel_rfl) rfl rfl ⟨P1.out,P2.out,BD.out,KD.out,OD.out⟩ (fun hHeld=>?_)
  refine pure_ (i:=0) (N:=some 11) (v:=?_) (a':=?_) #[true,false,false,false,false,false,false,false,false,false] rfl rfl (by kernel_rfl) (fun _ _ _ h=>h) (Or.inl ⟨by rfl,?_⟩) ?_ ?_
  rotate_left
  ·intro w'
   go_simp
   with_reducible rfl
  rotate_left
  ·simp only [Act.put,lS,i64_w,i32_w]
   rfl
  refine pure_ (i:=1) (N:=some 12) (v:=?_) (a':=?_) #[true,true,false,false,false,false,false,false,false,false] rfl rfl (by kernel_rfl) (fun _ _ _ h=>h) (Or.inl ⟨by rfl,?_⟩) ?_ ?_
  rotate_left
  ·intro w'
   go_simp
   with_reducible rfl
  rotate_left
  ·simp only [Act.put,lS,i64_w,i32_w]
   rfl
  refine pure_ (i:=2) (N:=some 13) (v:=?_) (a':=?_) #[true,true,true,false,false,false,false,false,false,false] rfl rfl (by kernel_rfl) (fun _ _ _ h=>h) (Or.inl ⟨by rfl,?_⟩) ?_ ?_
  rotate_left
  ·intro w'
   go_simp
   with_reducible rfl
  rotate_left
  ·simp only [Act.put,lS,i64_w,i32_w]
   rfl
  refine pure_ (i:=3) (N:=some 14) (v:=?_) (a':=?_) #[true,true,true,true,false,false,false,false,false,false] rfl rfl (by kernel_rfl) (fun _ _ _ h=>h) (Or.inl ⟨by rfl,?_⟩) ?_ ?_
  rotate_left
  ·intro w'
   go_simp
   with_reducible rfl
  rotate_left
  ·simp only [Act.put,lS,i64_w,i32_w]
   rfl
  refine pure_ (i:=5) (N:=some 16) (v:=?_) (a':=?_) #[true,true,true,true,false,true,false,false,false,false] rfl rfl (by kernel_rfl) (fun _ _ _ h=>h) (Or.inl ⟨by rfl,?_⟩) ?_ ?_
  rotate_left
  ·intro w'
   go_simp
   with_reducible rfl
  rotate_left
  ·simp only [Act.put,lS,i64_w,i32_w]
   rfl
  refine pure_ (i:=6) (N:=some 17) (v:=?_) (a':=?_) #[true,true,true,true,false,true,true,false,false,false] rfl rfl (by kernel_rfl) (fun _ _ _ h=>h) (Or.inl ⟨by rfl,?_⟩) ?_ ?_
  rotate_left
  ·intro w'
   go_simp
   with_reducible rfl
  rotate_left
  ·simp only [Act.put,lS,i64_w,i32_w]
   rfl
  refine take_ (i:=4) (N:=some 15) (v:=?_) (a':=?_) #[true,true,true,true,true,true,true,false,false,false] rfl rfl (by kernel_rfl) (fun _ _ _ h=>h) (Or.inl ⟨by rfl,?_⟩) hHeld ?_ ?_
  rotate_left
  ·rintro w' ⟨s0,s1,s2,s3,s4⟩
   go_simp
   with_reducible rfl
  rotate_left
  ·simp only [Act.put,lS,i64_w,i32_w]
   rfl
  refine take_ (i:=7) (N:=some 18) (v:=?_) (a':=?_) #[true,true,true,true,true,true,true,true,false,false] rfl rfl (by kernel_rfl) (fun _ _ _ h=>h) (Or.inl ⟨by rfl,?_⟩) hHeld ?_ ?_
  rotate_left
  ·rintro w' ⟨s0,s1,s2,s3,s4⟩
   go_simp
   with_reducible rfl
  rotate_left
  ·simp only [Act.put,lS,i64_w,i32_w]
   rfl
  refine one_ (i:=8) (N:=some 19) #[true,true,true,true,true,true,true,true,true,false] rfl rfl (by kernel_rfl) (by decide) (fun K hK=>?_)
  refine goes_ Tryz.func83 (by kernel_rfl) rfl #[.slice A0 l0.length c0,.agg #[.int .i64 x.f0,.int .i64 x.f1],.agg #[.int .i64 x.f0,.int .i64 x.f1]] (by rfl) rfl rfl (by simp only [List.map_toArray,List.map_cons,List.map_nil];rfl) ?_
  refine (HS0.out _ hHeld.2.2.1).mono ?_
  rintro e w3 ⟨v3,rfl,r3,hk3⟩
  obtain ⟨A3,c3,rfl⟩:=Kd.R_slice r3
  have R3:=aK r3
  refine ⟨_,rfl,?_⟩
  refine hK.out _ _ ⟨(hk3.cell (World.block_lt_of_cell? _ _ hHeld.1)).trans hHeld.1,(hk3.cell (World.block_lt_of_cell? _ _ hHeld.2.1)).trans hHeld.2.1,below_step hHeld.2.2.1 hk3,blk_below hHeld.2.2.2.1 hk3,blk_below hHeld.2.2.2.2 hk3⟩ (fun hHeld=>?_)
  clear hK K
  refine norm_ (a':=?_) ?_ ?_
  rotate_left
  ·show Act.put _ (some 19) _=_
   simp only [Act.put,lS,i64_w,i32_w]
   rfl
  refine last_ (i:=9) (N:=some 20) #[true,true,true,true,true,true,true,true,true,true] rfl rfl (by kernel_rfl) (by decide) (fun K hK=>?_)
  have BB:=aK hHeld.2.2.1
  refine goesv_ lb #[.slice A3 (hu 0).length c3] eg (by rfl) rfl rfl (by rfl) (by simp only [List.map_toArray,List.map_cons,List.map_nil];rfl) ?_
  refine (HC0'.out _ A3 c3 hHeld.2.2.2.1 hHeld.2.2.2.2 (Kd.R_reads' R3.out).2.2 (Kd.R_reads' R3.out).2.1).mono ?_
  rintro e w4 ⟨rfl,hg4,hk4⟩
  refine ⟨_,rfl,?_⟩
  refine hK.out _ _ ?_
  clear hK K
  refine norm_ (a':=?_) ?_ ?_
  rotate_left
  ·show Act.put _ (some 20) _=_
   simp only [Act.put,lS,i64_w,i32_w]
   rfl
  refine done_ (by kernel_rfl) ?_
  have K4:=aK hk4
  have B4:=aK (BB.out.grown hg4 BB.out.size (fun k hk'=>by injection hk' with hk';have:=HBK.out.1;omega))
  clear hk4 hg4
  go_wp2
  (try simp only [Exit.inBlock,Exit.then])
  refine bodyPost_ret (results_none rfl _ _ _) rfl ?_
  exact ⟨rfl,B4.out,K4.out⟩
 ·have hb:((l1.length:Int) == 1)=false:=beq_eq_false_iff_ne.mpr (by omega)
  obtain ⟨m,hm⟩ : ∃ m,l1.length=m+1:=⟨l1.length-1,by have:=HL.out;omega⟩
  have hpc:pieces l1=m:=by unfold pieces;rw [if_neg hone];omega
  have hcc : ¬ (c1=1):=by have:=HC1.out;have:=HL.out;omega
  have h1c:1≤l1.length:=HL.out.1
  have h1i:(1:Int)≤(l1.length:Int):=by omega
  have h1cc:1≤c1:=by have:=HC1.out;omega
  have HM:=aK hm
  have HPC:=aK hpc
  have HONE:=aK hone
  rw [hpc]
  clear hpc hm hone
  go_enter Tryz.func63,Tryz.ntmps63
  go_wp2
  have hsm:l1.length-1=m:=by have:=HM.out;omega
  rw [hsm]
  clear hsm hcc h1c h1cc
  go_loopg [24] m (fun gg s24 wr=>∃ kk:Nat,kk≤m∧m≤gg+kk∧s24 = .int .i64 kk∧Aside0 (∀ j,j<kk→hs j=false)∧Aside0 (Below w0.heap.size w0 wr)∧Aside0 (wr.heap[bk]?=some (.cells #[.bool false] 4 (0,0)))∧Aside0 (wr.heap[bs]?=some o))
  case atStart=>exact ⟨0,by omega,by omega,rfl,⟨fun j hj=>by omega⟩,HB,HK,HO⟩
  case round =>
   obtain ⟨kk,hkm,hg,rfl,HF,HB',HK',HO'⟩:=hrel
   by_cases hlt:kk<m
   ·have hlti:(kk:Int)<(m:Int):=by omega
    have hlt1:(kk:Int)<(l1.length:Int):=by have:=HM.out;omega
    have hlt2:((kk+1:Nat):Int)<(l1.length:Int):=by have:=HM.out;omega
    have hltn:kk<l1.length:=by omega
    obtain ⟨ad1,e1,hy0,hy1⟩:=at_T47 HR1.out (kk:Int) (by omega) hlt1
    obtain rfl:ad=ad1:=by injection e1
    obtain ⟨ad2,e2,hz0,hz1⟩:=at_T47 HR1.out ((kk+1:Nat):Int) (by omega) hlt2
    obtain rfl:ad=ad2:=by injection e2
    simp only [Int.toNat_natCast] at hy0 hy1 hz0 hz1
    have ea:ad.add ((kk+1)*2)=⟨ad.block,ad.off+2+kk*2,none⟩:=by
     unfold Addr.add
     rw [if_neg (by omega),show ad.off+(kk+1)*2=ad.off+2+kk*2 by omega]
    rw [ea] at hz0 hz1
    have hpb:pieceB l1 kk=rd_T47 l1 ((kk+1:Nat):Int):=by unfold pieceB;rw [if_neg HONE.out]
    have hsw0:=fun V=>HSW.out kk V (by rw [HPC.out];exact hlt)
    have hc0':=fun V A c=>HCALL.out kk V A c (by rw [HPC.out];exact hlt)
    rw [hpb] at hsw0
    generalize rd_T47 l1 ((kk+1:Nat):Int)=y at *
    generalize rd_T47 l1 (kk:Int)=x at *
    have bcell : ∀ (a:Addr) (v:Value),w0.cell? a=some v→wr.cell? a=some v:=fun a v hv=>(HB'.out.cell (World.block_lt_of_cell? w0 _ hv)).trans hv
    have q1:=bcell _ _ hz0
    have q2:=bcell _ _ hz1
    have BD:=aK (below_drew1 (below_alloc HB'.out (.cells #[.int .i64 y.f0,.int .i64 y.f1] 47)))
    have P3:=aK (show (wr.alloc (.cells #[.int .i64 y.f0,.int .i64 y.f1] 47)).drew.cell? (ad.add (kk*2))=some (.int .i64 x.f0) from (BD.out.cell (World.block_lt_of_cell? w0 _ hy0)).trans hy0)
    have P4:=aK (show (wr.alloc (.cells #[.int .i64 y.f0,.int .i64 y.f1] 47)).drew.cell? ⟨(ad.add (kk*2)).block,(ad.add (kk*2)).off+1,none⟩=some (.int .i64 x.f1) from (BD.out.cell (World.block_lt_of_cell? w0 _ hy1)).trans hy1)
    have yb:=blk_drew (blk_new wr (.cells #[.int .i64 y.f0,.int .i64 y.f1] 47))
    have P5:=aK ((blk_cell yb 0).trans rfl)
    have P6:=aK ((blk_cell yb 1).trans rfl)
    have KD:=aK (blk_drew (blk_alloc HK'.out (.cells #[.int .i64 y.f0,.int .i64 y.f1] 47)))
    have OD:=aK (blk_drew (blk_alloc HO'.out (.cells #[.int .i64 y.f0,.int .i64 y.f1] 47)))
    have HS0:=aK hsw0
    have HC0':=aK hc0'
    have hwj:wrap64 ((kk:Int)+1)=((kk+1:Nat):Int):=by have:=HL.out;unfold wrap64;omega
    have HW:=aK hwj
    clear hy0 hy1 hz0 hz1 e1 e2 ea hpb hsw0 hc0' yb bcell hlt2 hwj
    go_wp2
    refine start_ (n:=10) (S:=fun w'=>w'.cell? (ad.add (kk*2))=some (.int .i64 x.f0)∧w'.cell? ⟨(ad.add (kk*2)).block,(ad.add (kk*2)).off+1,none⟩=some (.int .i64 x.f1)∧w'.cell? ⟨wr.heap.size,0,none⟩=some (.int .i64 y.f0)∧w'.cell? ⟨wr.heap.size,1,none⟩=some (.int .i64 y.f1)∧Below w0.heap.size w0 w'∧w'.heap[bk]?=some (.cells #[.bool false] 4 (0,0))∧w'.heap[bs]?=some o) (ds:=[8]) #[false,false,false,false,false,false,false,false,false,false] (by kernel_rfl) rfl rfl ⟨P3.out,P4.out,P5.out,P6.out,BD.out,KD.out,OD.out⟩ (fun hHeld=>?_)
    refine pure_ (i:=0) (N:=some 29) (v:=?_) (a':=?_) #[true,false,false,false,false,false,false,false,false,false] rfl rfl (by kernel_rfl) (fun _ _ _ h=>h) (Or.inl ⟨by rfl,?_⟩) ?_ ?_
    rotate_left
    ·intro w'
     go_simp
     with_reducible rfl
    rotate_left
    ·simp only [Act.put,lS,i64_w,i32_w]
     rfl
    refine pure_ (i:=1) (N:=some 30) (v:=?_) (a':=?_) #[true,true,false,false,false,false,false,false,false,false] rfl rfl (by kernel_rfl) (fun _ _ _ h=>h) (Or.inl ⟨by rfl,?_⟩) ?_ ?_
    rotate_left
    ·intro w'
     go_simp
     with_reducible rfl
    rotate_left
    ·simp only [Act.put,lS,i64_w,i32_w]
     rfl
    refine pure_ (i:=2) (N:=some 31) (v:=?_) (a':=?_) #[true,true,true,false,false,false,false,false,false,false] rfl rfl (by kernel_rfl) (fun _ _ _ h=>h) (Or.inl ⟨by rfl,?_⟩) ?_ ?_
    rotate_left
    ·intro w'
     go_simp
     with_reducible rfl
    rotate_left
    ·simp only [Act.put,lS,i64_w,i32_w]
     rfl
    refine pure_ (i:=3) (N:=some 32) (v:=?_) (a':=?_) #[true,true,true,true,false,false,false,false,false,false] rfl rfl (by kernel_rfl) (fun _ _ _ h=>h) (Or.inl ⟨by rfl,?_⟩) ?_ ?_
    rotate_left
    ·intro w'
     go_simp
     with_reducible rfl
    rotate_left
    ·simp only [Act.put,lS,i64_w,i32_w]
     rfl
    refine pure_ (i:=4) (N:=some 33) (v:=?_) (a':=?_) #[true,true,true,true,true,false,false,false,false,false] rfl rfl (by kernel_rfl) (fun _ _ _ h=>h) (Or.inl ⟨by rfl,?_⟩) ?_ ?_
    rotate_left
    ·intro w'
     go_simp
     with_reducible rfl
    rotate_left
    ·simp only [Act.put,lS,i64_w,i32_w]
     rfl
    refine take_ (i:=5) (N:=some 34) (v:=?_) (a':=?_) #[true,true,true,true,true,true,false,false,false,false] rfl rfl (by kernel_rfl) (fun _ _ _ h=>h) (Or.inl ⟨by rfl,?_⟩) hHeld ?_ ?_
    rotate_left
    ·rintro w' ⟨s0,s1,s2,s3,s4,s5,s6⟩
     go_simp
     with_reducible rfl
    rotate_left
    ·simp only [Act.put,lS,i64_w,i32_w]
     rfl
    refine take_ (i:=6) (N:=some 35) (v:=?_) (a':=?_) #[true,true,true,true,true,true,true,false,false,false] rfl rfl (by kernel_rfl) (fun _ _ _ h=>h) (Or.inl ⟨by rfl,?_⟩) hHeld ?_ ?_
    rotate_left
    ·rintro w' ⟨s0,s1,s2,s3,s4,s5,s6⟩
     go_simp
     with_reducible rfl
    rotate_left
    ·simp only [Act.put,lS,i64_w,i32_w]
     rfl
    refine one_ (i:=7) (N:=some 36) #[true,true,true,true,true,true,true,true,false,false] rfl rfl (by kernel_rfl) (by decide) (fun K hK=>?_)
    refine goes_ Tryz.func83 (by kernel_rfl) rfl #[.slice A0 l0.length c0,.agg #[.int .i64 x.f0,.int .i64 x.f1],.agg #[.int .i64 y.f0,.int .i64 y.f1]] (by rfl) rfl rfl (by simp only [List.map_toArray,List.map_cons,List.map_nil];rfl) ?_
    refine (HS0.out _ hHeld.2.2.2.2.1).mono ?_
    rintro e w3 ⟨v3,rfl,r3,hk3⟩
    obtain ⟨A3,c3,rfl⟩:=Kd.R_slice r3
    have R3:=aK r3
    refine ⟨_,rfl,?_⟩
    refine hK.out _ _ ⟨(hk3.cell (World.block_lt_of_cell? _ _ hHeld.1)).trans hHeld.1,(hk3.cell (World.block_lt_of_cell? _ _ hHeld.2.1)).trans hHeld.2.1,(hk3.cell (World.block_lt_of_cell? _ _ hHeld.2.2.1)).trans hHeld.2.2.1,(hk3.cell (World.block_lt_of_cell? _ _ hHeld.2.2.2.1)).trans hHeld.2.2.2.1,below_step hHeld.2.2.2.2.1 hk3,blk_below hHeld.2.2.2.2.2.1 hk3,blk_below hHeld.2.2.2.2.2.2 hk3⟩ (fun hHeld=>?_)
    clear hK K
    refine norm_ (a':=?_) ?_ ?_
    rotate_left
    ·show Act.put _ (some 36) _=_
     simp only [Act.put,lS,i64_w,i32_w]
     rfl
    refine last_ (i:=8) (N:=some 37) #[true,true,true,true,true,true,true,true,true,false] rfl rfl (by kernel_rfl) (by decide) (fun K hK=>?_)
    have BB:=aK hHeld.2.2.2.2.1
    have OO:=aK hHeld.2.2.2.2.2.2
    refine goesv_ lb #[.slice A3 (hu kk).length c3] eg (by rfl) rfl rfl (by rfl) (by simp only [List.map_toArray,List.map_cons,List.map_nil];rfl) ?_
    refine (HC0'.out _ A3 c3 hHeld.2.2.2.2.2.1 hHeld.2.2.2.2.2.2 (Kd.R_reads' R3.out).2.2 (Kd.R_reads' R3.out).2.1).mono ?_
    rintro e w4 ⟨rfl,hg4,hk4⟩
    refine ⟨_,rfl,?_⟩
    refine hK.out _ _ ?_
    clear hK K
    refine norm_ (a':=?_) ?_ ?_
    rotate_left
    ·show Act.put _ (some 37) _=_
     simp only [Act.put,lS,i64_w,i32_w]
     rfl
    refine pure_ (i:=9) (N:=some 38) (v:=?_) (a':=?_) #[true,true,true,true,true,true,true,true,true,true] rfl rfl (by kernel_rfl) (fun _ _ _ h=>h) (Or.inl ⟨by rfl,?_⟩) ?_ ?_
    rotate_left
    ·intro w'
     go_simp
     with_reducible rfl
    rotate_left
    ·simp only [Act.put,lS,i64_w,i32_w]
     rfl
    refine done_ (by kernel_rfl) ?_
    have B4:=aK (BB.out.grown hg4 BB.out.size (fun k hk'=>by injection hk' with hk';have:=HBK.out.1;omega))
    have O4:=aK (blk_grown OO.out hg4 (by have:=HBK.out.2;simpa using this))
    cases hh:hs kk with
    | true =>
     rw [hh] at hk4
     have K4:=aK hk4
     have HANY:=aK (any_hit hlt hh)
     clear hk4 hg4
     go_wp2
     (try simp only [Exit.inBlock,Exit.then])
     refine bodyPost_ret (results_none rfl _ _ _) rfl ?_
     exact ⟨rfl,B4.out,by rw [HANY.out];exact K4.out⟩
    | false =>
     rw [hh] at hk4
     have K4:=aK hk4
     have HH:=aK hh
     clear hk4 hg4 hh
     go_wp2
     go_roundg (m-(kk+1))
     case measure=>omega
     case rel=>exact ⟨kk+1,by omega,by omega,congrArg (Value.int .i64) HW.out,⟨fun j hj=>by rcases Nat.lt_or_ge j kk with h|h;exact HF.out j h;rw [show j=kk by omega];exact HH.out⟩,B4,K4,O4⟩
   ·have hlti : ¬ (kk:Int)<(m:Int):=by omega
    obtain rfl:kk=m:=by omega
    have HANY:=aK (any_none HF.out)
    go_wp2
    go_end0
    exact ⟨rfl,HB'.out,by rw [HANY.out];exact HK'.out⟩
def pen_Strokes.f (l0:List S47):Option Bool:=none
set_option maxHeartbeats 4000000 in
theorem along1_calls (s:S47) (h:List S47) (q:Bool) (hq:pen_Has.f h s.f0 s.f1=some q) (bs bk:Nat) (A:Option Addr) (c:Nat) (W:World) (hne:bs≠bk) (hk:W.heap[bk]?=some (.cells #[.bool false] 4 (0,0))) (ho:W.heap[bs]?=some (.cells #[.int .i64 s.f0,.int .i64 s.f1] 47 (0,0)))
  (hr:Kd.C k47 W A h.length h) (hc:h.length≤c) :
  Calls Tryz.prog 64 #[.slice A h.length c,.pointer (some ⟨bs,0,none⟩),.pointer (some ⟨bk,0,none⟩)] W fun e w'=>e = .returned (.bool (!q))∧W.grownBy w' (some bk)∧w'.heap[bk]?=some (.cells #[.bool q] 4 (0,0)):=by
 have hu:=Tryz.underlying47
 have HH:=aK (pen_Has.calls A c h s.f0 s.f1 q W hr hc hq)
 have a0:=(blk_cell ho 0).trans rfl
 have a1:=(blk_cell ho 1).trans rfl
 have HK:=aK hk
 clear hq hr hc hk ho hne
 go_enter Tryz.func64,Tryz.ntmps64
 go_wp2_with fail
 refine HH.out.mono ?_
 rintro e W1 ⟨rfl,hb1⟩
 have K1:=blk_below HK.out hb1
 have c0:=(blk_cell K1 0).trans rfl
 have f0:=blk_frozen K1 0
 have K2:=blk_set K1 0 (.bool q)
 have c1:=(blk_cell K2 0).trans rfl
 have K2:=aK K2
 have HB:=aK hb1
 clear hb1 K1 HH HK a0 a1
 go_wp2
 go_ret
 exact ⟨rfl,grown_set HB.out 0 bk 0 _,K2.out⟩
def huA (l0 l1:List S47) (i:Nat):List S47:=(pen_Swept.f (l0.length+5) l0 (rd_T47 l1 (i:Int)).f0 (rd_T47 l1 (i:Int)).f1 (pieceB l1 i).f0 (pieceB l1 i).f1).getD []
def hsA (l0 l1:List S47) (s0 s1:Int) (i:Nat):Bool:=(pen_Has.f (huA l0 l1 i) s0 s1).getD false
def okA (l0 l1:List S47) (s0 s1:Int):Bool:=(List.range (pieces l1)).all fun i=>(pen_Swept.f (l0.length+5) l0 (rd_T47 l1 (i:Int)).f0 (rd_T47 l1 (i:Int)).f1 (pieceB l1 i).f0 (pieceB l1 i).f1).isSome && (pen_Has.f (huA l0 l1 i) s0 s1).isSome
theorem some_getD {α:Type} {o:Option α} {d:α} (h:o.isSome=true):o=some (o.getD d):=by cases o with|none=>cases h|some x=>rfl
def pen_Along.f (l0 l1:List S47) (a2_0 a2_1:Int):Option (Bool×Int):=(pen_Valid.f l0).bind fun v=>if v=true then (pen_ValidLine.f l1).bind fun b=>if b=true then (flat_IsPoint.f a2_0 a2_1).bind fun q=>if q=true then if (1≤l1.length∧l1.length≤1000000000)∧okA l0 l1 a2_0 a2_1=true then some ((List.range (pieces l1)).any (hsA l0 l1 a2_0 a2_1),0) else none else some (false,2) else some (false,2) else some (false,2)
set_option maxHeartbeats 4000000 in
theorem pen_Along.calls (A0:Option Addr) (c0:Nat) (l0:List S47) (A1:Option Addr) (c1:Nat) (l1:List S47) (a2_0 a2_1:Int) (r1:Bool) (r2:Int) (w:World) (hr0:Kd.C k47 w A0 l0.length l0) (hc0:l0.length≤c0) (hr1:Kd.C k47 w A1 l1.length l1) (hc1:l1.length≤c1) (h:pen_Along.f l0 l1 a2_0 a2_1=some (r1,r2)) :
  Calls Tryz.prog 32 #[.slice A0 l0.length c0,.slice A1 l1.length c1,.agg #[.int .i64 a2_0,.int .i64 a2_1]] w fun e w'=>e = .returned (.tuple #[.bool r1,.int .i64 r2])∧Below w.heap.size w w':=by
 have hu:=Tryz.underlying47
 unfold pen_Along.f at h
 obtain ⟨v,hv,h⟩:=Option.bind_eq_some_iff.mp h
 have HR:=aK hr0
 have HC:=aK hc0
 have HR1:=aK hr1
 have HC1:=aK hc1
 have HV:=aK hv
 have H:=aK h
 have K1:=aK (blk_new w (.cells #[.int .i64 a2_0,.int .i64 a2_1] 47))
 have HB:=aK (below_alloc (Below.refl w.heap.size w) (.cells #[.int .i64 a2_0,.int .i64 a2_1] 47))
 clear hr0 hc0 hr1 hc1 hv h
 go_enter Tryz.func32,Tryz.ntmps32
 go_wp2_with fail
 refine (pen_Valid.calls A0 c0 l0 v _ (Kd.C_below HR.out HB.out) HC.out HV.out).mono ?_
 rintro e W1 ⟨rfl,b1⟩
 have B1:=aK (below_step HB.out b1)
 have L1:=aK (blk_below K1.out b1)
 have d0:=(blk_cell L1.out 0).trans rfl
 have d1:=(blk_cell L1.out 1).trans rfl
 clear b1 K1 HB
 cases v with
 | false =>
  obtain ⟨rfl,rfl⟩:false=r1∧2=r2:=by have:=H.out;simpa using this
  go_wp2
  go_ret2
  exact ⟨rfl,B1.out⟩
 | true =>
  have hh:=H.out
  rw [if_pos rfl] at hh
  obtain ⟨b,hb,hh⟩:=Option.bind_eq_some_iff.mp hh
  have HVL:=aK hb
  have HX:=aK hh
  clear hh hb H
  go_wp2_with fail
  refine (pen_ValidLine.calls A1 c1 l1 b _ (Kd.C_below HR1.out B1.out) HC1.out HVL.out).mono ?_
  rintro e W2 ⟨rfl,b2⟩
  have B2:=aK (below_step B1.out b2)
  have M1:=aK (blk_below L1.out b2)
  clear b2 d0 d1 L1 B1
  have d0:=(blk_cell M1.out 0).trans rfl
  have d1:=(blk_cell M1.out 1).trans rfl
  cases b with
  | false =>
   obtain ⟨rfl,rfl⟩:false=r1∧2=r2:=by have:=HX.out;simpa using this
   go_wp2
   go_ret2
   exact ⟨rfl,B2.out⟩
  | true =>
   have hh:=HX.out
   rw [if_pos rfl] at hh
   obtain ⟨q,hq,hh⟩:=Option.bind_eq_some_iff.mp hh
   have HQ:=aK hq
   have HY:=aK hh
   clear hh hq HX
   go_wp2_with fail
   refine (flat_IsPoint.calls a2_0 a2_1 q _ HQ.out).mono ?_
   rintro e W3 ⟨rfl,b3⟩
   have B3:=aK (below_step B2.out b3)
   have N1:=aK (blk_below M1.out b3)
   clear b3 d0 d1 M1 B2
   cases q with
   | false =>
    obtain ⟨rfl,rfl⟩:false=r1∧2=r2:=by have:=HY.out;simpa using this
    go_wp2
    go_ret2
    exact ⟨rfl,B3.out⟩
   | true =>
    have hh:=HY.out
    rw [if_pos rfl] at hh
    by_cases hok:(1≤l1.length∧l1.length≤1000000000)∧okA l0 l1 a2_0 a2_1=true
    case neg=>rw [if_neg hok] at hh;cases hh
    rw [if_pos hok] at hh
    obtain ⟨hr,rfl⟩:(List.range (pieces l1)).any (hsA l0 l1 a2_0 a2_1)=r1∧0=r2:=by simpa using hh
    have hall : ∀ i,i<pieces l1→pen_Swept.f (l0.length+5) l0 (rd_T47 l1 (i:Int)).f0 (rd_T47 l1 (i:Int)).f1 (pieceB l1 i).f0 (pieceB l1 i).f1=some (huA l0 l1 i)∧pen_Has.f (huA l0 l1 i) a2_0 a2_1=some (hsA l0 l1 a2_0 a2_1 i):=by
     intro i hi
     have h2:=hok.2
     unfold okA at h2
     have h3:=List.all_eq_true.mp h2 i (List.mem_range.mpr hi)
     simp only [Bool.and_eq_true] at h3
     exact ⟨some_getD h3.1,some_getD h3.2⟩
    have hlt:w.heap.size<W3.heap.size:=blk_lt N1.out
    have hE:=strokes_calls 64 #[.pointer (some ⟨w.heap.size,0,none⟩),.pointer (some ⟨W3.heap.size,0,none⟩)] W3.heap.size w.heap.size (.cells #[.int .i64 a2_0,.int .i64 a2_1] 47 (0,0)) (enters_own Tryz.func64 (by kernel_rfl) rfl) (huA l0 l1) (hsA l0 l1 a2_0 a2_1)
     A0 c0 l0 A1 c1 l1 w (W3.alloc (.cells #[.bool false] 4)) (below_alloc B3.out _) (by omega) (by omega) (blk_new W3 _) (blk_alloc N1.out _) (fun i hi=>(hall i hi).1)
     (fun i W A c hi h1 h2 h3 h4=>along1_calls ⟨a2_0,a2_1⟩ (huA l0 l1 i) (hsA l0 l1 a2_0 a2_1 i) (hall i hi).2 w.heap.size W3.heap.size A c W (by omega) h1 h2 h3 h4)
     HR.out HC.out HR1.out HC1.out hok.1.1 hok.1.2
    rw [hr] at hE
    have HE:=aK hE
    clear hE hall hlt hok hh hr HY
    go_wp2_with fail
    refine HE.out.mono ?_
    rintro e W6 ⟨rfl,k0,k1⟩
    have K0:=aK k0
    have c6:=(blk_cell k1 0).trans rfl
    clear HE k0 k1
    go_wp2
    go_ret2
    exact ⟨rfl,K0.out⟩
end Go.Proofs.YtckjlckhjcbddaaGreat.PG3
