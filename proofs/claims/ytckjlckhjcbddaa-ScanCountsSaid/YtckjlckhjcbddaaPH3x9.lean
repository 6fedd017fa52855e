import Derived.Test.YtckjlckhjcbddaaPH3x0
import Derived.Test.YtckjlckhjcbddaaPH3x3
import Derived.Test.YtckjlckhjcbddaaPH3x4
import Derived.Test.YtckjlckhjcbddaaPH3x5
import Derived.Test.YtckjlckhjcbddaaPH3x6
import Derived.Test.YtckjlckhjcbddaaPH3x7
import Derived.Test.YtckjlckhjcbddaaPH3x8
set_option maxRecDepth 100000
namespace Go.Proofs.Ytckjlckhjcbddaa.PH3
open Go.RowKit Go.Proofs.YtckjlckhjcbddaaW.PrintWords Go.Proofs.YtckjlckhjcbddaaW.PrintLast Go.Proofs.YtckjlckhjcbddaaW.PrintMore
attribute [local go_sem] max2_int min2_int max_two min_two max_three min_three max_four min_four
set_option linter.unusedVariables false
set_option linter.unusedSimpArgs false
def wind_Edge_Where.f (k:Nat) (a0_0:Int) (a0_1:Int) (a0_2:Int) (a0_3:Int) (a1_0:Int) (a1_1:Int):Option (Int):=(wind_Sign.f a0_0 a0_1 a0_2 a0_3 a1_0 a1_1).bind fun t175=>((wind_Edge_Way.f k a0_0 a0_1 a0_2 a0_3 a1_1).bind fun t176=>(some (wrap64 (t175*t176))))
theorem wind_Edge_Where.mono : ∀ a0 a1 a2 a3 a4 a5 k,LeO (wind_Edge_Where.f k a0 a1 a2 a3 a4 a5) (wind_Edge_Where.f (k+1) a0 a1 a2 a3 a4 a5):=by
 intro a0 a1 a2 a3 a4 a5 k
 unfold wind_Edge_Where.f
 repeat' first
   | (with_reducible exact wind_Edge_Way.mono _ _ _ _ _ _)
   | (with_reducible exact LeO.refl _)
   | (with_reducible exact LeO.none _)
   | (with_reducible refine LeO.ite ?_ ?_)
   | (with_reducible refine LeO.bind ?_ (fun _=>?_))
   | exact wind_Edge_Way.mono _ _ _ _ _ _
   | exact LeO.none _
   | refine LeO.ite ?_ ?_
   | refine LeO.bind ?_ (fun _=>?_)
def wind_Edge_Where.T1:Bool×List (List Nat×List Nat):=(true,[([],[]),([0],[0]),([],[]),([2],[2]),([],[]),([1,3,4],[1,3,4]),([],[]),([],[]),([7],[7]),([6,8,5],[6,8]),([5,9],[5,9]),([10,9,0,1,2,3,4,5,6,7,8,9,10],[10])])
def wind_Edge_Where.B1:List Nat:=[0,1,0,4,0,31,0,0,128,511,1023,2047]
theorem wind_Edge_Where.tab1:rtab .any (opsOf Try.f50 1)=wind_Edge_Where.T1:=by kernel_rfl
theorem wind_Edge_Where.bits1:waitsOk wind_Edge_Where.T1.2 wind_Edge_Where.B1=true:=by kernel_rfl
set_option maxHeartbeats 8000000 in
theorem wind_Edge_Where.calls (k : Nat) (a0_0 : Int) (a0_1 : Int) (a0_2 : Int) (a0_3 : Int) (a1_0 : Int) (a1_1 : Int) (r : Int) (w : World) (h : wind_Edge_Where.f k a0_0 a0_1 a0_2 a0_3 a1_0 a1_1 = some r) :
  Calls Try.prog 50 #[.agg #[.int .i64 a0_0,.int .i64 a0_1,.int .i64 a0_2,.int .i64 a0_3],.agg #[.int .i64 a1_0,.int .i64 a1_1]] w fun e w'=>e = .returned (.int .i64 r)∧Below w.heap.size w w':=by
 have hu51:=Try.underlying51
 have hu31:=Try.underlying31
 have HB:=aK (Below.refl w.heap.size w)
 have H:((wind_Sign.f a0_0 a0_1 a0_2 a0_3 a1_0 a1_1).bind fun t175=>((wind_Edge_Way.f k a0_0 a0_1 a0_2 a0_3 a1_1).bind fun t176=>(some (wrap64 (t175*t176)))))=some r:=h
 clear h
 replace H:=Option.bind_eq_some_iff.mp H
 obtain ⟨t175,A30,H⟩:=H
 replace H:((wind_Edge_Way.f k a0_0 a0_1 a0_2 a0_3 a1_1).bind fun t176=>(some (wrap64 (t175*t176))))=some r:=H
 have A3:=aK A30
 clear A30
 replace H:=Option.bind_eq_some_iff.mp H
 obtain ⟨t176,A40,H⟩:=H
 replace H:(some (wrap64 (t175*t176)))=some r:=H
 have A4:=aK A40
 clear A40
 obtain rfl:=Option.some.inj H
 go_enter Try.func50,Try.ntmps50
 try go_wp2_with (first|((with_reducible refine gate_dst (N:=2) rfl ?_);refine box_event ?hg (N:=2) ?hd (cs:=#[.int .i64 a0_0,.int .i64 a0_1,.int .i64 a0_2,.int .i64 a0_3]) (t:=51) ?hr ?_;(case hd=>rfl);(case hg=>rfl);(case hr=>first|(go_simp;done)|(go_simp;rfl));intro gb173 hg w5 hbox hb;have n0_:=aK (below_step (by repeat (first|(with_reducible first|exact HB.out|apply below_alloc|apply pw_below_drewN|apply below_drew1)|exact HB.out)) hb);have n1_:=aK (hbox);have n2_:=aK ((by rw [hg];exact (below_size (by repeat (first|(with_reducible first|exact HB.out|apply below_alloc|apply pw_below_drewN|apply below_drew1)|exact HB.out))):w.heap.size≤gb173));have n3_:=n2_;clear HB;have HB:=n0_;have BK173:=n1_;have GW173:=n2_;have GE173:=n3_;clear n0_ n1_ n2_ n3_;clear hb hbox hg)|((with_reducible refine gate_dst (N:=3) rfl ?_);refine box_event ?hg (N:=3) ?hd (cs:=#[.int .i64 a1_0,.int .i64 a1_1]) (t:=31) ?hr ?_;(case hd=>rfl);(case hg=>rfl);(case hr=>first|(go_simp;done)|(go_simp;rfl));intro gb174 hg w6 hbox hb;have n0_:=aK (blk_below (g:=gb173) (o:=.cells #[.int .i64 a0_0,.int .i64 a0_1,.int .i64 a0_2,.int .i64 a0_3] 51 (0,0)) (by (with_reducible repeat (first|refine blk_drewN ?_ _|refine blk_drew ?_|refine blk_alloc ?_ _));exact BK173.out) hb);have n1_:=aK (below_step (by repeat (first|(with_reducible first|exact HB.out|apply below_alloc|apply pw_below_drewN|apply below_drew1|refine below_set ?_ GE173.out)|exact HB.out)) hb);have n2_:=aK (hbox);have n3_:=aK ((by rw [hg];exact (below_size (by repeat (first|(with_reducible first|exact HB.out|apply below_alloc|apply pw_below_drewN|apply below_drew1|refine below_set ?_ GE173.out)|exact HB.out))):w.heap.size≤gb174));have n4_:=n3_;have n5_:=aK ((by rw [hg];exact Nat.ne_of_lt (blk_lt (g:=gb173) (o:=.cells #[.int .i64 a0_0,.int .i64 a0_1,.int .i64 a0_2,.int .i64 a0_3] 51 (0,0)) (by (with_reducible repeat (first|refine blk_drewN ?_ _|refine blk_drew ?_|refine blk_alloc ?_ _));exact BK173.out)):gb173≠gb174));have n6_:=aK (Ne.symm n5_.out);clear BK173;clear HB;have BK173:=n0_;have HB:=n1_;have BK174:=n2_;have GW174:=n3_;have GE174:=n4_;have NB173_174:=n5_;have NB174_173:=n6_;clear n0_ n1_ n2_ n3_ n4_ n5_ n6_;clear hb hbox hg))
 have n0_:=aK (blk_drew BK173.out)
 have n1_:=aK (blk_drew BK174.out)
 have n2_:=aK (below_drew1 HB.out)
 clear BK173
 clear BK174
 clear HB
 have BK173:=n0_
 have BK174:=n1_
 have HB:=n2_
 clear n0_ n1_ n2_
 refine start_ (n:=12) (S:=fun w'=>w'.cell? ⟨gb173,0,none⟩=some (.int .i64 a0_0)∧w'.cell? ⟨gb173,1,none⟩=some (.int .i64 a0_1)∧w'.cell? ⟨gb173,2,none⟩=some (.int .i64 a0_2)∧w'.cell? ⟨gb173,3,none⟩=some (.int .i64 a0_3)∧w'.cell? ⟨gb174,0,none⟩=some (.int .i64 a1_0)∧w'.cell? ⟨gb174,1,none⟩=some (.int .i64 a1_1)) (ds:=[]) #[false,false,false,false,false,false,false,false,false,false,false,false] (by kernel_rfl) rfl rfl ⟨(blk_cell BK173.out 0).trans rfl,(blk_cell BK173.out 1).trans rfl,(blk_cell BK173.out 2).trans rfl,(blk_cell BK173.out 3).trans rfl,(blk_cell BK174.out 0).trans rfl,(blk_cell BK174.out 1).trans rfl⟩ (fun hHeld=>?_);refine with_tabW wind_Edge_Where.tab1 wind_Edge_Where.bits1 (fun HT_ HW_=>?_)
 generalize w6.drew=w7 at BK173 BK174 HB hHeld ⊢
 refine pure_ (i:=0) (N:=some 5) (v:=?_) (a':=?_) #[true,false,false,false,false,false,false,false,false,false,false,false] rfl rfl (any_of HT_.out (by kernel_rfl)) (fun _ _ _ h=>h) (Or.inl ⟨by rfl,?_⟩) ?_ ?_
 rotate_left
 ·intro w'
  go_simp
  with_reducible rfl
 rotate_left
 ·simp only [Act.put,lS,i64_w,i32_w]
  rfl
 refine pure_ (i:=2) (N:=some 7) (v:=?_) (a':=?_) #[true,false,true,false,false,false,false,false,false,false,false,false] rfl rfl (any_of HT_.out (by kernel_rfl)) (fun _ _ _ h=>h) (Or.inl ⟨by rfl,?_⟩) ?_ ?_
 rotate_left
 ·intro w'
  go_simp
  with_reducible rfl
 rotate_left
 ·simp only [Act.put,lS,i64_w,i32_w]
  rfl
 refine pure_ (i:=7) (N:=some 12) (v:=?_) (a':=?_) #[true,false,true,false,false,false,false,true,false,false,false,false] rfl rfl (any_of HT_.out (by kernel_rfl)) (fun _ _ _ h=>h) (Or.inl ⟨by rfl,?_⟩) ?_ ?_
 rotate_left
 ·intro w'
  go_simp
  with_reducible rfl
 rotate_left
 ·simp only [Act.put,lS,i64_w,i32_w]
  rfl
 refine take_ (i:=1) (N:=some 6) (v:=?_) (a':=?_) #[true,true,true,false,false,false,false,true,false,false,false,false] rfl rfl (take_ofW HT_.out HW_.out (by kernel_rfl)) (fun _ _ _ h=>h) (Or.inl ⟨by rfl,?_⟩) hHeld ?_ ?_
 rotate_left
 ·rintro w' ⟨s0,s1,s2,s3,s4,s5⟩
  go_simp
  with_reducible rfl
 rotate_left
 ·simp only [Act.put,lS,i64_w,i32_w]
  rfl
 refine take_ (i:=3) (N:=some 8) (v:=?_) (a':=?_) #[true,true,true,true,false,false,false,true,false,false,false,false] rfl rfl (take_ofW HT_.out HW_.out (by kernel_rfl)) (fun _ _ _ h=>h) (Or.inl ⟨by rfl,?_⟩) hHeld ?_ ?_
 rotate_left
 ·rintro w' ⟨s0,s1,s2,s3,s4,s5⟩
  go_simp
  with_reducible rfl
 rotate_left
 ·simp only [Act.put,lS,i64_w,i32_w]
  rfl
 refine take_ (i:=4) (N:=some 9) (v:=?_) (a':=?_) #[true,true,true,true,true,false,false,true,false,false,false,false] rfl rfl (take_ofW HT_.out HW_.out (by kernel_rfl)) (fun _ _ _ h=>h) (Or.inl ⟨by rfl,?_⟩) hHeld ?_ ?_
 rotate_left
 ·rintro w' ⟨s0,s1,s2,s3,s4,s5⟩
  go_simp
  with_reducible rfl
 rotate_left
 ·simp only [Act.put,lS,i64_w,i32_w]
  rfl
 refine take_ (i:=6) (N:=some 11) (v:=?_) (a':=?_) #[true,true,true,true,true,false,true,true,false,false,false,false] rfl rfl (take_ofW HT_.out HW_.out (by kernel_rfl)) (fun _ _ _ h=>h) (Or.inl ⟨by rfl,?_⟩) hHeld ?_ ?_
 rotate_left
 ·rintro w' ⟨s0,s1,s2,s3,s4,s5⟩
  go_simp
  with_reducible rfl
 rotate_left
 ·simp only [Act.put,lS,i64_w,i32_w]
  rfl
 refine take_ (i:=8) (N:=some 13) (v:=?_) (a':=?_) #[true,true,true,true,true,false,true,true,true,false,false,false] rfl rfl (take_ofW HT_.out HW_.out (by kernel_rfl)) (fun _ _ _ h=>h) (Or.inl ⟨by rfl,?_⟩) hHeld ?_ ?_
 rotate_left
 ·rintro w' ⟨s0,s1,s2,s3,s4,s5⟩
  go_simp
  with_reducible rfl
 rotate_left
 ·simp only [Act.put,lS,i64_w,i32_w]
  rfl
 refine one_ (i:=5) (N:=some 10) #[true,true,true,true,true,true,true,true,true,false,false,false] rfl rfl (one_of HT_.out (by kernel_rfl)) (by decide) (fun K hK=>?_)
 refine goes_ Try.func62 (by kernel_rfl) rfl #[.agg #[.int .i64 a0_0,.int .i64 a0_1],.agg #[.int .i64 a0_2,.int .i64 a0_3],.agg #[.int .i64 a1_0,.int .i64 a1_1]] (by rfl) rfl rfl (by (try simp only [List.map_toArray,List.map_cons,List.map_nil]);first|done|rfl|(simp only [List.length_drop,List.length_take];rfl)) ?_
 with_reducible refine (wind_Sign.calls a0_0 a0_1 a0_2 a0_3 a1_0 a1_1 t175 _ A3.out).mono ?_
 rintro e w8 ⟨rfl,hb⟩
 refine ⟨_,rfl,?_⟩
 have n0_:=aK (blk_below (g:=gb173) (o:=.cells #[.int .i64 a0_0,.int .i64 a0_1,.int .i64 a0_2,.int .i64 a0_3] 51 (0,0)) (by (with_reducible repeat (first|refine blk_drewN ?_ _|refine blk_drew ?_|refine blk_alloc ?_ _));exact BK173.out) hb)
 have n1_:=aK (blk_below (g:=gb174) (o:=.cells #[.int .i64 a1_0,.int .i64 a1_1] 31 (0,0)) (by (with_reducible repeat (first|refine blk_drewN ?_ _|refine blk_drew ?_|refine blk_alloc ?_ _));exact BK174.out) hb)
 have n2_:=aK (below_step (by repeat (first|(with_reducible first|exact HB.out|apply below_alloc|apply pw_below_drewN|apply below_drew1|refine below_set ?_ GE173.out|refine below_set ?_ GE174.out)|exact HB.out)) hb)
 clear BK173
 clear BK174
 clear HB
 have BK173:=n0_
 have BK174:=n1_
 have HB:=n2_
 clear n0_ n1_ n2_
 (try clear hb)
 (try clear hb2)
 (try clear hk)
 (try clear hi)
 refine hK.out _ _ ⟨(blk_cell BK173.out 0).trans rfl,(blk_cell BK173.out 1).trans rfl,(blk_cell BK173.out 2).trans rfl,(blk_cell BK173.out 3).trans rfl,(blk_cell BK174.out 0).trans rfl,(blk_cell BK174.out 1).trans rfl⟩ (fun hHeld=>?_)
 clear hK K
 refine norm_ (a':=?_) ?_ ?_
 rotate_left
 ·show Act.put _ (some 10) _=_
  simp only [Act.put,lS,i64_w,i32_w]
  rfl
 refine one_ (i:=9) (N:=some 14) #[true,true,true,true,true,true,true,true,true,true,false,false] rfl rfl (one_of HT_.out (by kernel_rfl)) (by decide) (fun K hK=>?_)
 refine goes_ Try.func35 (by kernel_rfl) rfl #[.agg #[.int .i64 a0_0,.int .i64 a0_1,.int .i64 a0_2,.int .i64 a0_3],.int .i64 a1_1] (by rfl) rfl rfl (by (try simp only [List.map_toArray,List.map_cons,List.map_nil]);first|done|rfl|(simp only [List.length_drop,List.length_take];rfl)) ?_
 with_reducible refine (wind_Edge_Way.calls k a0_0 a0_1 a0_2 a0_3 a1_1 t176 _ A4.out).mono ?_
 rintro e w9 ⟨rfl,hb⟩
 refine ⟨_,rfl,?_⟩
 have n0_:=aK (blk_below (g:=gb173) (o:=.cells #[.int .i64 a0_0,.int .i64 a0_1,.int .i64 a0_2,.int .i64 a0_3] 51 (0,0)) (by (with_reducible repeat (first|refine blk_drewN ?_ _|refine blk_drew ?_|refine blk_alloc ?_ _));exact BK173.out) hb)
 have n1_:=aK (blk_below (g:=gb174) (o:=.cells #[.int .i64 a1_0,.int .i64 a1_1] 31 (0,0)) (by (with_reducible repeat (first|refine blk_drewN ?_ _|refine blk_drew ?_|refine blk_alloc ?_ _));exact BK174.out) hb)
 have n2_:=aK (below_step (by repeat (first|(with_reducible first|exact HB.out|apply below_alloc|apply pw_below_drewN|apply below_drew1|refine below_set ?_ GE173.out|refine below_set ?_ GE174.out)|exact HB.out)) hb)
 clear BK173
 clear BK174
 clear HB
 have BK173:=n0_
 have BK174:=n1_
 have HB:=n2_
 clear n0_ n1_ n2_
 (try clear hb)
 (try clear hb2)
 (try clear hk)
 (try clear hi)
 refine hK.out _ _ ⟨(blk_cell BK173.out 0).trans rfl,(blk_cell BK173.out 1).trans rfl,(blk_cell BK173.out 2).trans rfl,(blk_cell BK173.out 3).trans rfl,(blk_cell BK174.out 0).trans rfl,(blk_cell BK174.out 1).trans rfl⟩ (fun hHeld=>?_)
 clear hK K
 refine norm_ (a':=?_) ?_ ?_
 rotate_left
 ·show Act.put _ (some 14) _=_
  simp only [Act.put,lS,i64_w,i32_w]
  rfl
 refine pure_ (i:=10) (N:=some 15) (v:=?_) (a':=?_) #[true,true,true,true,true,true,true,true,true,true,true,false] rfl rfl (any_of HT_.out (by kernel_rfl)) (fun _ _ _ h=>h) (Or.inl ⟨by rfl,?_⟩) ?_ ?_
 rotate_left
 ·intro w'
  go_simp
  with_reducible rfl
 rotate_left
 ·simp only [Act.put,lS,i64_w,i32_w]
  rfl
 refine pure_ (i:=11) (N:=some 4) (v:=?_) (a':=?_) #[true,true,true,true,true,true,true,true,true,true,true,true] rfl rfl (any_of HT_.out (by kernel_rfl)) (fun _ _ _ h=>h) (Or.inl ⟨by rfl,?_⟩) ?_ ?_
 rotate_left
 ·intro w'
  go_simp
  with_reducible rfl
 rotate_left
 ·simp only [Act.put,lS,i64_w,i32_w]
  rfl
 refine done_ (done_of HT_.out (by kernel_rfl)) ?_
 try go_wp2
 go_ret
 exact ⟨by first|rfl|(simp [errW_none,errW_some] <;> rfl)|(simp [*,errW_none,errW_some] <;> rfl),by repeat (first|(with_reducible first|exact HB.out|apply below_alloc|apply pw_below_drewN|apply below_drew1|refine below_set ?_ GE173.out|refine below_set ?_ GE174.out)|exact HB.out)⟩
def scan_column.f (k:Nat) (a0_0:Int) (a0_1:Int) (a0_2:Int) (a0_3:Int) (a1:Int):Option (Int):=(wind_Edge_At.f a0_0 a0_1 a0_2 a0_3 a1).bind fun t178=>((scan_from.f t178).bind fun t179=>((scan_middle.f t179).bind fun t180=>(if t180=t178 then ((wind_Edge_Where.f k a0_0 a0_1 a0_2 a0_3 t178 a1).bind fun t181=>(if t181>0 then (some (wrap64 (t179+1))) else (some t179))) else (some t179))))
theorem scan_column.mono : ∀ a0 a1 a2 a3 a4 k,LeO (scan_column.f k a0 a1 a2 a3 a4) (scan_column.f (k+1) a0 a1 a2 a3 a4):=by
 intro a0 a1 a2 a3 a4 k
 unfold scan_column.f
 repeat' first
   | (with_reducible exact wind_Edge_Where.mono _ _ _ _ _ _ _)
   | (with_reducible exact LeO.refl _)
   | (with_reducible exact LeO.none _)
   | (with_reducible refine LeO.ite ?_ ?_)
   | (with_reducible refine LeO.bind ?_ (fun _=>?_))
   | exact wind_Edge_Where.mono _ _ _ _ _ _ _
   | exact LeO.none _
   | refine LeO.ite ?_ ?_
   | refine LeO.bind ?_ (fun _=>?_)
set_option maxHeartbeats 8000000 in
theorem scan_column.calls (k : Nat) (a0_0 : Int) (a0_1 : Int) (a0_2 : Int) (a0_3 : Int) (a1 : Int) (r : Int) (w : World) (h : scan_column.f k a0_0 a0_1 a0_2 a0_3 a1 = some r) :
  Calls Try.prog 36 #[.agg #[.int .i64 a0_0,.int .i64 a0_1,.int .i64 a0_2,.int .i64 a0_3],.int .i64 a1] w fun e w'=>e = .returned (.int .i64 r)∧Below w.heap.size w w':=by
 have hu51:=Try.underlying51
 have hu31:=Try.underlying31
 have HB:=aK (Below.refl w.heap.size w)
 have H:((wind_Edge_At.f a0_0 a0_1 a0_2 a0_3 a1).bind fun t178=>((scan_from.f t178).bind fun t179=>((scan_middle.f t179).bind fun t180=>(if t180=t178 then ((wind_Edge_Where.f k a0_0 a0_1 a0_2 a0_3 t178 a1).bind fun t181=>(if t181>0 then (some (wrap64 (t179+1))) else (some t179))) else (some t179)))))=some r:=h
 clear h
 replace H:=Option.bind_eq_some_iff.mp H
 obtain ⟨t178,A30,H⟩:=H
 replace H:((scan_from.f t178).bind fun t179=>((scan_middle.f t179).bind fun t180=>(if t180=t178 then ((wind_Edge_Where.f k a0_0 a0_1 a0_2 a0_3 t178 a1).bind fun t181=>(if t181>0 then (some (wrap64 (t179+1))) else (some t179))) else (some t179))))=some r:=H
 have A3:=aK A30
 clear A30
 replace H:=Option.bind_eq_some_iff.mp H
 obtain ⟨t179,A40,H⟩:=H
 replace H:((scan_middle.f t179).bind fun t180=>(if t180=t178 then ((wind_Edge_Where.f k a0_0 a0_1 a0_2 a0_3 t178 a1).bind fun t181=>(if t181>0 then (some (wrap64 (t179+1))) else (some t179))) else (some t179)))=some r:=H
 have A4:=aK A40
 clear A40
 replace H:=Option.bind_eq_some_iff.mp H
 obtain ⟨t180,A50,H⟩:=H
 replace H:(if t180=t178 then ((wind_Edge_Where.f k a0_0 a0_1 a0_2 a0_3 t178 a1).bind fun t181=>(if t181>0 then (some (wrap64 (t179+1))) else (some t179))) else (some t179))=some r:=H
 have A5:=aK A50
 clear A50
 by_cases c6:t180=t178
 ·rw [if_pos c6] at H
  have c6b0:(t180 == t178)=true:=beq_iff_eq.mpr c6
  have c6b1:(t180 != t178)=false:=bne_eq_false_iff_eq.mpr c6
  clear c6
  replace H:=Option.bind_eq_some_iff.mp H
  obtain ⟨t181,A70,H⟩:=H
  replace H:(if t181>0 then (some (wrap64 (t179+1))) else (some t179))=some r:=H
  have A7:=aK A70
  clear A70
  by_cases c8:t181>0
  ·rw [if_pos c8] at H
   have c8b0:decide (0<t181)=true:=decide_eq_true c8
   clear c8
   obtain rfl:=Option.some.inj H
   go_enter Try.func36,Try.ntmps36
   go_wp2_with (first|((with_reducible refine gate_dst (N:=2) rfl ?_);refine box_event ?hg (N:=2) ?hd (cs:=#[.int .i64 a0_0,.int .i64 a0_1,.int .i64 a0_2,.int .i64 a0_3]) (t:=51) ?hr ?_;(case hd=>rfl);(case hg=>rfl);(case hr=>first|(go_simp;done)|(go_simp;rfl));intro gb177 hg w9 hbox hb;have n0_:=aK (below_step (by repeat (first|(with_reducible first|exact HB.out|apply below_alloc|apply pw_below_drewN|apply below_drew1)|exact HB.out)) hb);have n1_:=aK (hbox);have n2_:=aK ((by rw [hg];exact (below_size (by repeat (first|(with_reducible first|exact HB.out|apply below_alloc|apply pw_below_drewN|apply below_drew1)|exact HB.out))):w.heap.size≤gb177));have n3_:=n2_;clear HB;have HB:=n0_;have BK177:=n1_;have GW177:=n2_;have GE177:=n3_;clear n0_ n1_ n2_ n3_;clear hb hbox hg;have hcz10_0:w9.cell? ⟨gb177,0,none⟩=some (.int .i64 a0_0):=(blk_cell BK177.out 0).trans rfl;have hcz10_1:w9.cell? ⟨gb177,1,none⟩=some (.int .i64 a0_1):=(blk_cell BK177.out 1).trans rfl;have hcz10_2:w9.cell? ⟨gb177,2,none⟩=some (.int .i64 a0_2):=(blk_cell BK177.out 2).trans rfl;have hcz10_3:w9.cell? ⟨gb177,3,none⟩=some (.int .i64 a0_3):=(blk_cell BK177.out 3).trans rfl;have hfz10_0:=blk_frozen BK177.out 0;have hfz10_1:=blk_frozen BK177.out 1;have hfz10_2:=blk_frozen BK177.out 2;have hfz10_3:=blk_frozen BK177.out 3)|((with_reducible refine gate_callee (f:=49) rfl ?_);refine goesL_ (some 9) rfl rfl Try.func49 (by kernel_rfl) rfl #[.agg #[.int .i64 a0_0,.int .i64 a0_1,.int .i64 a0_2,.int .i64 a0_3],.int .i64 a1] rfl (by (try simp only [List.map_toArray,List.map_cons,List.map_nil]);first|done|rfl|(simp only [List.length_drop,List.length_take];rfl)) ?_;(with_reducible refine (wind_Edge_At.calls a0_0 a0_1 a0_2 a0_3 a1 t178 _ A3.out).mono ?_);rintro e w11 ⟨rfl,hb⟩;refine ⟨_,rfl,?_⟩;have n0_:=aK (blk_below (g:=gb177) (o:=.cells #[.int .i64 a0_0,.int .i64 a0_1,.int .i64 a0_2,.int .i64 a0_3] 51 (0,0)) (by (with_reducible repeat (first|refine blk_drewN ?_ _|refine blk_drew ?_|refine blk_alloc ?_ _));exact BK177.out) hb);have n1_:=aK (below_step (by repeat (first|(with_reducible first|exact HB.out|apply below_alloc|apply pw_below_drewN|apply below_drew1|refine below_set ?_ GE177.out)|exact HB.out)) hb);clear BK177;clear HB;have BK177:=n0_;have HB:=n1_;clear n0_ n1_;(try clear hb);(try clear hb2);(try clear hk);(try clear hi))|((with_reducible refine gate_callee (f:=27) rfl ?_);refine goesL_ (some 11) rfl rfl Try.func27 (by kernel_rfl) rfl #[.int .i64 t178] rfl (by (try simp only [List.map_toArray,List.map_cons,List.map_nil]);first|done|rfl|(simp only [List.length_drop,List.length_take];rfl)) ?_;(with_reducible refine (scan_from.calls t178 t179 _ A4.out).mono ?_);rintro e w' ⟨rfl,⟨nd,rfl⟩⟩;refine ⟨_,rfl,?_⟩)|((with_reducible refine gate_callee (f:=33) rfl ?_);refine goesL_ (some 13) rfl rfl Try.func33 (by kernel_rfl) rfl #[.int .i64 t179] rfl (by (try simp only [List.map_toArray,List.map_cons,List.map_nil]);first|done|rfl|(simp only [List.length_drop,List.length_take];rfl)) ?_;(with_reducible refine (scan_middle.calls t179 t180 _ A5.out).mono ?_);rintro e w' ⟨rfl,⟨nd,rfl⟩⟩;refine ⟨_,rfl,?_⟩;have hcz12_0:w11.cell? ⟨gb177,0,none⟩=some (.int .i64 a0_0):=(blk_cell BK177.out 0).trans rfl;have hcz12_1:w11.cell? ⟨gb177,1,none⟩=some (.int .i64 a0_1):=(blk_cell BK177.out 1).trans rfl;have hcz12_2:w11.cell? ⟨gb177,2,none⟩=some (.int .i64 a0_2):=(blk_cell BK177.out 2).trans rfl;have hcz12_3:w11.cell? ⟨gb177,3,none⟩=some (.int .i64 a0_3):=(blk_cell BK177.out 3).trans rfl;have hfz12_0:=blk_frozen BK177.out 0;have hfz12_1:=blk_frozen BK177.out 1;have hfz12_2:=blk_frozen BK177.out 2;have hfz12_3:=blk_frozen BK177.out 3)|(go_at_call 50;(with_reducible refine (wind_Edge_Where.calls k a0_0 a0_1 a0_2 a0_3 t178 a1 t181 _ A7.out).mono ?_);rintro e w13 ⟨rfl,hb⟩;have n0_:=aK (blk_below (g:=gb177) (o:=.cells #[.int .i64 a0_0,.int .i64 a0_1,.int .i64 a0_2,.int .i64 a0_3] 51 (0,0)) (by (with_reducible repeat (first|refine blk_drewN ?_ _|refine blk_drew ?_|refine blk_alloc ?_ _));exact BK177.out) hb);have n1_:=aK (below_step (by repeat (first|(with_reducible first|exact HB.out|apply below_alloc|apply pw_below_drewN|apply below_drew1|refine below_set ?_ GE177.out)|exact HB.out)) hb);clear BK177;clear HB;have BK177:=n0_;have HB:=n1_;clear n0_ n1_;(try clear hb);(try clear hb2);(try clear hk);(try clear hi)))
   go_ret
   exact ⟨by first|rfl|(simp [errW_none,errW_some] <;> rfl)|(simp [*,errW_none,errW_some] <;> rfl),by repeat (first|(with_reducible first|exact HB.out|apply below_alloc|apply pw_below_drewN|apply below_drew1|refine below_set ?_ GE177.out)|exact HB.out)⟩
  ·rw [if_neg c8] at H
   have c8b0:decide (0<t181)=false:=decide_eq_false c8
   clear c8
   obtain rfl:=Option.some.inj H
   go_enter Try.func36,Try.ntmps36
   go_wp2_with (first|((with_reducible refine gate_dst (N:=2) rfl ?_);refine box_event ?hg (N:=2) ?hd (cs:=#[.int .i64 a0_0,.int .i64 a0_1,.int .i64 a0_2,.int .i64 a0_3]) (t:=51) ?hr ?_;(case hd=>rfl);(case hg=>rfl);(case hr=>first|(go_simp;done)|(go_simp;rfl));intro gb177 hg w14 hbox hb;have n0_:=aK (below_step (by repeat (first|(with_reducible first|exact HB.out|apply below_alloc|apply pw_below_drewN|apply below_drew1)|exact HB.out)) hb);have n1_:=aK (hbox);have n2_:=aK ((by rw [hg];exact (below_size (by repeat (first|(with_reducible first|exact HB.out|apply below_alloc|apply pw_below_drewN|apply below_drew1)|exact HB.out))):w.heap.size≤gb177));have n3_:=n2_;clear HB;have HB:=n0_;have BK177:=n1_;have GW177:=n2_;have GE177:=n3_;clear n0_ n1_ n2_ n3_;clear hb hbox hg;have hcz15_0:w14.cell? ⟨gb177,0,none⟩=some (.int .i64 a0_0):=(blk_cell BK177.out 0).trans rfl;have hcz15_1:w14.cell? ⟨gb177,1,none⟩=some (.int .i64 a0_1):=(blk_cell BK177.out 1).trans rfl;have hcz15_2:w14.cell? ⟨gb177,2,none⟩=some (.int .i64 a0_2):=(blk_cell BK177.out 2).trans rfl;have hcz15_3:w14.cell? ⟨gb177,3,none⟩=some (.int .i64 a0_3):=(blk_cell BK177.out 3).trans rfl;have hfz15_0:=blk_frozen BK177.out 0;have hfz15_1:=blk_frozen BK177.out 1;have hfz15_2:=blk_frozen BK177.out 2;have hfz15_3:=blk_frozen BK177.out 3)|((with_reducible refine gate_callee (f:=49) rfl ?_);refine goesL_ (some 9) rfl rfl Try.func49 (by kernel_rfl) rfl #[.agg #[.int .i64 a0_0,.int .i64 a0_1,.int .i64 a0_2,.int .i64 a0_3],.int .i64 a1] rfl (by (try simp only [List.map_toArray,List.map_cons,List.map_nil]);first|done|rfl|(simp only [List.length_drop,List.length_take];rfl)) ?_;(with_reducible refine (wind_Edge_At.calls a0_0 a0_1 a0_2 a0_3 a1 t178 _ A3.out).mono ?_);rintro e w16 ⟨rfl,hb⟩;refine ⟨_,rfl,?_⟩;have n0_:=aK (blk_below (g:=gb177) (o:=.cells #[.int .i64 a0_0,.int .i64 a0_1,.int .i64 a0_2,.int .i64 a0_3] 51 (0,0)) (by (with_reducible repeat (first|refine blk_drewN ?_ _|refine blk_drew ?_|refine blk_alloc ?_ _));exact BK177.out) hb);have n1_:=aK (below_step (by repeat (first|(with_reducible first|exact HB.out|apply below_alloc|apply pw_below_drewN|apply below_drew1|refine below_set ?_ GE177.out)|exact HB.out)) hb);clear BK177;clear HB;have BK177:=n0_;have HB:=n1_;clear n0_ n1_;(try clear hb);(try clear hb2);(try clear hk);(try clear hi))|((with_reducible refine gate_callee (f:=27) rfl ?_);refine goesL_ (some 11) rfl rfl Try.func27 (by kernel_rfl) rfl #[.int .i64 t178] rfl (by (try simp only [List.map_toArray,List.map_cons,List.map_nil]);first|done|rfl|(simp only [List.length_drop,List.length_take];rfl)) ?_;(with_reducible refine (scan_from.calls t178 t179 _ A4.out).mono ?_);rintro e w' ⟨rfl,⟨nd,rfl⟩⟩;refine ⟨_,rfl,?_⟩)|((with_reducible refine gate_callee (f:=33) rfl ?_);refine goesL_ (some 13) rfl rfl Try.func33 (by kernel_rfl) rfl #[.int .i64 t179] rfl (by (try simp only [List.map_toArray,List.map_cons,List.map_nil]);first|done|rfl|(simp only [List.length_drop,List.length_take];rfl)) ?_;(with_reducible refine (scan_middle.calls t179 t180 _ A5.out).mono ?_);rintro e w' ⟨rfl,⟨nd,rfl⟩⟩;refine ⟨_,rfl,?_⟩;have hcz17_0:w16.cell? ⟨gb177,0,none⟩=some (.int .i64 a0_0):=(blk_cell BK177.out 0).trans rfl;have hcz17_1:w16.cell? ⟨gb177,1,none⟩=some (.int .i64 a0_1):=(blk_cell BK177.out 1).trans rfl;have hcz17_2:w16.cell? ⟨gb177,2,none⟩=some (.int .i64 a0_2):=(blk_cell BK177.out 2).trans rfl;have hcz17_3:w16.cell? ⟨gb177,3,none⟩=some (.int .i64 a0_3):=(blk_cell BK177.out 3).trans rfl;have hfz17_0:=blk_frozen BK177.out 0;have hfz17_1:=blk_frozen BK177.out 1;have hfz17_2:=blk_frozen BK177.out 2;have hfz17_3:=blk_frozen BK177.out 3)|(go_at_call 50;(with_reducible refine (wind_Edge_Where.calls k a0_0 a0_1 a0_2 a0_3 t178 a1 t181 _ A7.out).mono ?_);rintro e w18 ⟨rfl,hb⟩;have n0_:=aK (blk_below (g:=gb177) (o:=.cells #[.int .i64 a0_0,.int .i64 a0_1,.int .i64 a0_2,.int .i64 a0_3] 51 (0,0)) (by (with_reducible repeat (first|refine blk_drewN ?_ _|refine blk_drew ?_|refine blk_alloc ?_ _));exact BK177.out) hb);have n1_:=aK (below_step (by repeat (first|(with_reducible first|exact HB.out|apply below_alloc|apply pw_below_drewN|apply below_drew1|refine below_set ?_ GE177.out)|exact HB.out)) hb);clear BK177;clear HB;have BK177:=n0_;have HB:=n1_;clear n0_ n1_;(try clear hb);(try clear hb2);(try clear hk);(try clear hi)))
   go_ret
   exact ⟨by first|rfl|(simp [errW_none,errW_some] <;> rfl)|(simp [*,errW_none,errW_some] <;> rfl),by repeat (first|(with_reducible first|exact HB.out|apply below_alloc|apply pw_below_drewN|apply below_drew1|refine below_set ?_ GE177.out)|exact HB.out)⟩
 ·rw [if_neg c6] at H
  have c6b0:(t180 == t178)=false:=beq_eq_false_iff_ne.mpr c6
  have c6b1:(t180 != t178)=true:=bne_iff_ne.mpr c6
  obtain rfl:=Option.some.inj H
  go_enter Try.func36,Try.ntmps36
  go_wp2_with (first|((with_reducible refine gate_dst (N:=2) rfl ?_);refine box_event ?hg (N:=2) ?hd (cs:=#[.int .i64 a0_0,.int .i64 a0_1,.int .i64 a0_2,.int .i64 a0_3]) (t:=51) ?hr ?_;(case hd=>rfl);(case hg=>rfl);(case hr=>first|(go_simp;done)|(go_simp;rfl));intro gb177 hg w19 hbox hb;have n0_:=aK (below_step (by repeat (first|(with_reducible first|exact HB.out|apply below_alloc|apply pw_below_drewN|apply below_drew1)|exact HB.out)) hb);have n1_:=aK (hbox);have n2_:=aK ((by rw [hg];exact (below_size (by repeat (first|(with_reducible first|exact HB.out|apply below_alloc|apply pw_below_drewN|apply below_drew1)|exact HB.out))):w.heap.size≤gb177));have n3_:=n2_;clear HB;have HB:=n0_;have BK177:=n1_;have GW177:=n2_;have GE177:=n3_;clear n0_ n1_ n2_ n3_;clear hb hbox hg;have hcz20_0:w19.cell? ⟨gb177,0,none⟩=some (.int .i64 a0_0):=(blk_cell BK177.out 0).trans rfl;have hcz20_1:w19.cell? ⟨gb177,1,none⟩=some (.int .i64 a0_1):=(blk_cell BK177.out 1).trans rfl;have hcz20_2:w19.cell? ⟨gb177,2,none⟩=some (.int .i64 a0_2):=(blk_cell BK177.out 2).trans rfl;have hcz20_3:w19.cell? ⟨gb177,3,none⟩=some (.int .i64 a0_3):=(blk_cell BK177.out 3).trans rfl;have hfz20_0:=blk_frozen BK177.out 0;have hfz20_1:=blk_frozen BK177.out 1;have hfz20_2:=blk_frozen BK177.out 2;have hfz20_3:=blk_frozen BK177.out 3)|((with_reducible refine gate_callee (f:=49) rfl ?_);refine goesL_ (some 9) rfl rfl Try.func49 (by kernel_rfl) rfl #[.agg #[.int .i64 a0_0,.int .i64 a0_1,.int .i64 a0_2,.int .i64 a0_3],.int .i64 a1] rfl (by (try simp only [List.map_toArray,List.map_cons,List.map_nil]);first|done|rfl|(simp only [List.length_drop,List.length_take];rfl)) ?_;(with_reducible refine (wind_Edge_At.calls a0_0 a0_1 a0_2 a0_3 a1 t178 _ A3.out).mono ?_);rintro e w21 ⟨rfl,hb⟩;refine ⟨_,rfl,?_⟩;have n0_:=aK (blk_below (g:=gb177) (o:=.cells #[.int .i64 a0_0,.int .i64 a0_1,.int .i64 a0_2,.int .i64 a0_3] 51 (0,0)) (by (with_reducible repeat (first|refine blk_drewN ?_ _|refine blk_drew ?_|refine blk_alloc ?_ _));exact BK177.out) hb);have n1_:=aK (below_step (by repeat (first|(with_reducible first|exact HB.out|apply below_alloc|apply pw_below_drewN|apply below_drew1|refine below_set ?_ GE177.out)|exact HB.out)) hb);clear BK177;clear HB;have BK177:=n0_;have HB:=n1_;clear n0_ n1_;(try clear hb);(try clear hb2);(try clear hk);(try clear hi))|((with_reducible refine gate_callee (f:=27) rfl ?_);refine goesL_ (some 11) rfl rfl Try.func27 (by kernel_rfl) rfl #[.int .i64 t178] rfl (by (try simp only [List.map_toArray,List.map_cons,List.map_nil]);first|done|rfl|(simp only [List.length_drop,List.length_take];rfl)) ?_;(with_reducible refine (scan_from.calls t178 t179 _ A4.out).mono ?_);rintro e w' ⟨rfl,⟨nd,rfl⟩⟩;refine ⟨_,rfl,?_⟩)|((with_reducible refine gate_callee (f:=33) rfl ?_);refine goesL_ (some 13) rfl rfl Try.func33 (by kernel_rfl) rfl #[.int .i64 t179] rfl (by (try simp only [List.map_toArray,List.map_cons,List.map_nil]);first|done|rfl|(simp only [List.length_drop,List.length_take];rfl)) ?_;(with_reducible refine (scan_middle.calls t179 t180 _ A5.out).mono ?_);rintro e w' ⟨rfl,⟨nd,rfl⟩⟩;refine ⟨_,rfl,?_⟩))
  go_ret
  exact ⟨by first|rfl|(simp [errW_none,errW_some] <;> rfl)|(simp [*,errW_none,errW_some] <;> rfl),by repeat (first|(with_reducible first|exact HB.out|apply below_alloc|apply pw_below_drewN|apply below_drew1|refine below_set ?_ GE177.out)|exact HB.out)⟩
def wind_ValidAll.l0 : Nat → List (List (S31)) → Int → List (List (S31)) → Int → Int → Option (Bool)
 | 0,_,_,_,_,_=>none
 | k+1,x0,x3,x6,x7,x8=>if x8<x7 then (if 0≤x8 then (if x8<(x6.length:Int) then ((wind_valid.f (rd_L2 x6 x8)).bind fun t183=>(if t183=true then (wind_ValidAll.l0 k x0 (wrap64 (x3+((rd_L2 x6 x8).length:Int))) x6 x7 (wrap64 (x8+1))) else (some false))) else (none)) else (none)) else (if (x0.length:Int)≤50 then (some (decide (x3≤60000))) else (some false))
def wind_ValidAll.f (k:Nat) (l0:List (List (S31))):Option (Bool):=wind_ValidAll.l0 k l0 0 l0 (l0.length:Int) 0
theorem wind_ValidAll.mono_l : ∀ k, (∀ y0 y1 y2 y3 y4, LeO (wind_ValidAll.l0 k y0 y1 y2 y3 y4) (wind_ValidAll.l0 (k + 1) y0 y1 y2 y3 y4))
 | 0=>fun _ _ _ _ _ r h=>by simp [wind_ValidAll.l0] at h
 | k+1=>by
  have ih0:=wind_ValidAll.mono_l k
  ·intro y0 y1 y2 y3 y4
   unfold wind_ValidAll.l0
   repeat' first
   | (with_reducible exact ih0 _ _ _ _ _)
   | (with_reducible exact LeO.refl _)
   | (with_reducible exact LeO.none _)
   | (with_reducible refine LeO.ite ?_ ?_)
   | (with_reducible refine LeO.bind ?_ (fun _=>?_))
   | exact ih0 _ _ _ _ _
   | exact LeO.none _
   | refine LeO.ite ?_ ?_
   | refine LeO.bind ?_ (fun _=>?_)
theorem wind_ValidAll.mono : ∀ a0 k,LeO (wind_ValidAll.f k a0) (wind_ValidAll.f (k+1) a0):=by
 intro a0 k
 have ih0:=wind_ValidAll.mono_l k
 unfold wind_ValidAll.f
 repeat' first
   | (with_reducible exact ih0 _ _ _ _ _)
   | (with_reducible exact LeO.refl _)
   | (with_reducible exact LeO.none _)
   | (with_reducible refine LeO.ite ?_ ?_)
   | (with_reducible refine LeO.bind ?_ (fun _=>?_))
   | exact ih0 _ _ _ _ _
   | exact LeO.none _
   | refine LeO.ite ?_ ?_
   | refine LeO.bind ?_ (fun _=>?_)
set_option maxHeartbeats 8000000 in
theorem wind_ValidAll.calls (k : Nat) (A0 : Option Addr) (c0 : Nat) (l0 : List (List (S31))) (r : Bool) (w : World) (hr0 : Kd.C (Kd.slice 31 k31) w A0 l0.length l0) (hc0 : l0.length ≤ c0) (h : wind_ValidAll.f k l0 = some r) :
  Calls Try.prog 19 #[.slice A0 l0.length c0] w fun e w'=>e = .returned (.bool r)∧Below w.heap.size w w':=by
 have HR0:=aK hr0
 have HC0:=aK hc0
 clear hr0 hc0
 have HB:=aK (Below.refl w.heap.size w)
 have H:(wind_ValidAll.l0 k l0 0 l0 (l0.length:Int) 0)=some r:=h
 clear h
 have H':=aK H
 clear H
 go_enter Try.func19,Try.ntmps19
 go_wp2
 go_loopg [3,8] k (fun kq v3 v8 w'=>∃ (x3_1:Int) (x8_1:Int),v3 = .int .i64 x3_1∧v8 = .int .i64 x8_1∧Aside0 (wind_ValidAll.l0 kq l0 x3_1 l0 (l0.length:Int) x8_1=some r)∧Aside0 (kq≤k)∧Aside0 (Below w.heap.size w w'))
 case atStart=>exact ⟨(0),(0),(by first|rfl|(simp;done)|(simp [*];done)),(by first|rfl|(simp;done)|(simp [*];done)),H',⟨Nat.le_refl _⟩,⟨by repeat (first|(with_reducible first|exact HB.out|apply below_alloc|apply pw_below_drewN|apply below_drew1)|exact HB.out)⟩⟩
 case round =>
  clear H'
  try clear c1
  obtain ⟨x3_1,x8_1,rfl,rfl,HA,HK1,HB⟩:=hrel
  cases gk with
  | zero=>exact absurd HA.out (by simp [wind_ValidAll.l0])
  | succ k1 =>
   have H:=HA.out
   clear HA
   simp only [wind_ValidAll.l0] at H
   by_cases c2:x8_1<(l0.length:Int)
   ·rw [if_pos c2] at H
    have c2b0:decide (x8_1<(l0.length:Int))=true:=decide_eq_true c2
    clear c2
    by_cases c3:0≤x8_1
    ·rw [if_pos c3] at H
     have c3b0:decide (0≤x8_1)=true:=decide_eq_true c3
     clear c3
     by_cases c4:x8_1<(l0.length:Int)
     ·rw [if_pos c4] at H
      have c4b0:decide (x8_1<(l0.length:Int))=true:=decide_eq_true c4
      clear c4
      replace H:=Option.bind_eq_some_iff.mp H
      obtain ⟨t183,A50,H⟩:=H
      replace H:(if t183=true then (wind_ValidAll.l0 k1 l0 (wrap64 (x3_1+((rd_L2 l0 x8_1).length:Int))) l0 (l0.length:Int) (wrap64 (x8_1+1))) else (some false))=some r:=H
      have A5:=aK A50
      clear A50
      by_cases c6:t183=true
      ·subst c6
       have H1:(wind_ValidAll.l0 k1 l0 (wrap64 (x3_1+((rd_L2 l0 x8_1).length:Int))) l0 (l0.length:Int) (wrap64 (x8_1+1)))=some r:=by rw [if_pos rfl] at H;exact H
       clear H
       have H:=H1
       clear H1
       have H':=aK H
       clear H
       have p182:0≤(x8_1:Int):=of_decide_eq_true (by first|(with_reducible assumption)|assumption)
       have q182:x8_1<(l0.length:Int):=of_decide_eq_true (by first|(with_reducible assumption)|assumption)
       obtain ⟨ad182,A182_0,c182_0,e182,hx182_0,hl182_0,hi182_0⟩:=at_L2 HR0.out x8_1 p182 q182
       cases e182
       replace hx182_0:=(HB.out.cell (World.block_lt_of_cell? w _ hx182_0)).trans hx182_0
       have HR182_0:=aK hi182_0
       have HC182_0:=aK hl182_0
       clear hi182_0 hl182_0
       replace p182:=eq_true p182
       replace q182:=eq_true q182
       go_wp2_with ((with_reducible refine gate_callee (f:=32) rfl ?_);refine goesL_ (some 13) rfl rfl Try.func32 (by kernel_rfl) rfl #[.slice A182_0 (rd_L2 l0 x8_1).length c182_0] rfl (by (try simp only [List.map_toArray,List.map_cons,List.map_nil]);first|done|rfl|(simp only [List.length_drop,List.length_take];rfl)) ?_;(with_reducible refine (wind_valid.calls _ _ (rd_L2 l0 x8_1) true _ ?side1 ?side2 A5.out).mono ?_);(case side1=>repeat (first|exact (Kd.C_below HR182_0.out HB.out)|(with_reducible refine Kd.C_alloc ?_ _)|(with_reducible refine Kd.C_drewN ?_ _)|(with_reducible refine Kd.C_drew ?_)));(case side2=>exact HC182_0.out);rintro e w7 ⟨rfl,hb⟩;refine ⟨_,rfl,?_⟩;have n0_:=aK (below_step (by repeat (first|(with_reducible first|exact HB.out|apply below_alloc|apply pw_below_drewN|apply below_drew1)|exact HB.out)) hb);clear HB;have HB:=n0_;clear n0_;(try clear hb);(try clear hb2);(try clear hk);(try clear hi))
       go_roundg k1
       case measure=>have:=HK1.out;omega
       case rel=>exact ⟨(wrap64 (x3_1+((rd_L2 l0 x8_1).length:Int))),(wrap64 (x8_1+1)),(by first|rfl|(simp;done)|(simp [*];done)),(by first|rfl|(simp;done)|(simp [*];done)),H',⟨by have:=HK1.out;omega⟩,⟨by repeat (first|(with_reducible first|exact HB.out|apply below_alloc|apply pw_below_drewN|apply below_drew1)|exact HB.out)⟩⟩
      ·replace c6:=Bool.eq_false_iff.mpr c6
       subst c6
       have H1:(some false)=some r:=by rw [if_neg (show ¬ (false=true) by decide)] at H;exact H
       clear H
       have H:=H1
       clear H1
       obtain rfl:=Option.some.inj H
       have p182:0≤(x8_1:Int):=of_decide_eq_true (by first|(with_reducible assumption)|assumption)
       have q182:x8_1<(l0.length:Int):=of_decide_eq_true (by first|(with_reducible assumption)|assumption)
       obtain ⟨ad182,A182_0,c182_0,e182,hx182_0,hl182_0,hi182_0⟩:=at_L2 HR0.out x8_1 p182 q182
       cases e182
       replace hx182_0:=(HB.out.cell (World.block_lt_of_cell? w _ hx182_0)).trans hx182_0
       have HR182_0:=aK hi182_0
       have HC182_0:=aK hl182_0
       clear hi182_0 hl182_0
       replace p182:=eq_true p182
       replace q182:=eq_true q182
       go_wp2_with ((with_reducible refine gate_callee (f:=32) rfl ?_);refine goesL_ (some 13) rfl rfl Try.func32 (by kernel_rfl) rfl #[.slice A182_0 (rd_L2 l0 x8_1).length c182_0] rfl (by (try simp only [List.map_toArray,List.map_cons,List.map_nil]);first|done|rfl|(simp only [List.length_drop,List.length_take];rfl)) ?_;(with_reducible refine (wind_valid.calls _ _ (rd_L2 l0 x8_1) false _ ?side1 ?side2 A5.out).mono ?_);(case side1=>repeat (first|exact (Kd.C_below HR182_0.out HB.out)|(with_reducible refine Kd.C_alloc ?_ _)|(with_reducible refine Kd.C_drewN ?_ _)|(with_reducible refine Kd.C_drew ?_)));(case side2=>exact HC182_0.out);rintro e w8 ⟨rfl,hb⟩;refine ⟨_,rfl,?_⟩;have n0_:=aK (below_step (by repeat (first|(with_reducible first|exact HB.out|apply below_alloc|apply pw_below_drewN|apply below_drew1)|exact HB.out)) hb);clear HB;have HB:=n0_;clear n0_;(try clear hb);(try clear hb2);(try clear hk);(try clear hi))
       go_ret
       exact ⟨by first|rfl|(simp [errW_none,errW_some] <;> rfl)|(simp [*,errW_none,errW_some] <;> rfl),by repeat (first|(with_reducible first|exact HB.out|apply below_alloc|apply pw_below_drewN|apply below_drew1)|exact HB.out)⟩
     ·rw [if_neg c4] at H
      exact absurd H (by simp)
    ·rw [if_neg c3] at H
     exact absurd H (by simp)
   ·rw [if_neg c2] at H
    have c2b0:decide (x8_1<(l0.length:Int))=false:=decide_eq_false c2
    clear c2
    by_cases c9:(l0.length:Int)≤50
    ·rw [if_pos c9] at H
     have c9b0:decide ((l0.length:Int)≤50)=true:=decide_eq_true c9
     have c9b1:decide (l0.length≤50)=true:=decide_eq_true (by omega)
     clear c9
     obtain rfl:=Option.some.inj H
     go_wp2
     go_ret
     exact ⟨by first|rfl|(simp [errW_none,errW_some] <;> rfl)|(simp [*,errW_none,errW_some] <;> rfl),by repeat (first|(with_reducible first|exact HB.out|apply below_alloc|apply pw_below_drewN|apply below_drew1)|exact HB.out)⟩
    ·rw [if_neg c9] at H
     have c9b0:decide ((l0.length:Int)≤50)=false:=decide_eq_false c9
     have c9b1:decide (l0.length≤50)=false:=decide_eq_false (by omega)
     clear c9
     obtain rfl:=Option.some.inj H
     go_wp2
     go_ret
     exact ⟨by first|rfl|(simp [errW_none,errW_some] <;> rfl)|(simp [*,errW_none,errW_some] <;> rfl),by repeat (first|(with_reducible first|exact HB.out|apply below_alloc|apply pw_below_drewN|apply below_drew1)|exact HB.out)⟩
def setF (x:Nat→Bool):Array Value:=((List.range 256).map fun i=>Value.bool (x i)).toArray
theorem setF_get (x:Nat→Bool) (i:Nat) (h:i<256):(setF x)[i]?=some (.bool (x i)):=by
 unfold setF
 simp [List.getElem?_range,h]
theorem setF_size (x:Nat→Bool):(setF x).size=256:=by unfold setF;simp
theorem setF_set (x y:Nat→Bool) (i:Nat) (h:i<256) (v:Bool) (hy : ∀ j,y j=if j=i then v else x j):(setF x).setIfInBounds i (.bool v)=setF y:=by
 apply Array.ext_getElem?
 intro j
 rw [Array.getElem?_setIfInBounds,setF_size]
 by_cases hj:j<256
 ·rw [setF_get y j hj,setF_get x j hj,hy j]
  by_cases e:i=j
  ·subst e;simp [h]
  ·rw [if_neg e,if_neg (fun k=>e k.symm)]
 ·have n1:(setF x)[j]?=none:=by rw [Array.getElem?_eq_none];rw [setF_size];omega
  have n2:(setF y)[j]?=none:=by rw [Array.getElem?_eq_none];rw [setF_size];omega
  rw [n1,n2]
  by_cases e:i=j
  ·subst e;exact absurd h hj
  ·rw [if_neg e]
def mk (l:List S36) (x:Nat→Bool) (k:Nat):Nat→Bool:=fun j=>x j || (l.take k).any (fun s=>decide (s.f0≤(j:Int)) && decide ((j:Int)<s.f1))
theorem mk_zero (l:List S36) (x:Nat→Bool):mk l x 0=x:=by funext j;simp [mk]
def mkIn (y:Nat→Bool) (s:S36) (i:Int):Nat→Bool:=fun j=>y j || (decide (s.f0≤(j:Int)) && decide ((j:Int)<i))
theorem mkIn_zero (y:Nat→Bool) (s:S36):mkIn y s s.f0=y:=by
 funext j;unfold mkIn
 by_cases h:s.f0≤(j:Int)
 ·rw [decide_eq_false (show ¬ (j:Int)<s.f0 by omega)];simp
 ·rw [decide_eq_false h];simp
theorem mkIn_step (y:Nat→Bool) (s:S36) (i:Nat) (h:s.f0≤(i:Int)) : ∀ j,mkIn y s ((i+1:Nat):Int) j=if j=i then true else mkIn y s (i:Int) j:=by
 intro j;unfold mkIn
 by_cases e:j=i
 ·subst e;rw [if_pos rfl,decide_eq_true h,decide_eq_true (show (j:Int)<((j+1:Nat):Int) by omega)];simp
 ·rw [if_neg e]
  congr 2
  rw [decide_eq_decide];omega
theorem mk_step (l:List S36) (x:Nat→Bool) (k:Nat) (h:k<l.length):mkIn (mk l x k) (rd_T36 l (k:Int)) (rd_T36 l (k:Int)).f1=mk l x (k+1):=by
 funext j
 unfold mkIn mk
 rw [List.take_succ_eq_append_getElem h,List.any_append]
 have e:rd_T36 l (k:Int)=l[k]:=by simp [rd_T36,List.getD_eq_getElem?_getD,List.getElem?_eq_getElem h]
 rw [e]
 simp [Bool.or_assoc]
theorem grown_cellB (W:World) (b j:Nat) (v:Value):W.grownBy (W.setCell ⟨b,j,none⟩ v) (some b) :=
 ⟨rfl,rfl,rfl,by simp [World.setCell],fun k _ hk=>Below.heap_setCell _ _ _ k (fun e=>hk (by rw [e]))⟩
set_option maxHeartbeats 4000000 in
theorem mark_calls (b : Nat) (A : Option Addr) (c : Nat) (l : List S36) (x : Nat → Bool) (W : World) (hb : W.heap[b]? = some (.cells (setF x) 56 (0, 0))) (hF : Kd.F k36 W (fun k => k ≠ b) A l.length l) (hl : l.length ≤ 1000) (hv : ∀ s ∈ l, 0 ≤ s.f0 ∧ s.f0 ≤ s.f1 ∧ s.f1 ≤ 256) :
  Calls Try.prog 30 #[.pointer (some ⟨b,0,none⟩),.slice A l.length c] W fun e w'=>e = .returned (.tuple #[])∧W.grownBy w' (some b)∧w'.heap[b]?=some (.cells (setF (mk l x l.length)) 56 (0,0)):=by
 have hu:=Try.underlying36
 have hu2:=Try.underlying56
 have HF:=aK hF
 have HB0:=aK hb
 have HV:=aK hv
 have HL:=aK hl
 clear hF hb hv hl
 go_enter Try.func30,Try.ntmps30
 go_wp2
 go_loopg [9] l.length (fun gg s9 wr=>∃ kk:Nat,kk≤l.length∧l.length≤gg+kk∧s9 = .int .i64 kk∧Aside0 (W.grownBy wr (some b))∧Aside0 (wr.heap[b]?=some (.cells (setF (mk l x kk)) 56 (0,0))))
 case atStart=>exact ⟨0,by omega,by omega,rfl,⟨World.grownBy.refl _ _⟩,⟨by rw [mk_zero];exact HB0.out⟩⟩
 case round =>
  obtain ⟨kk,hkk,hgg,rfl,HG,HS⟩:=hrel
  by_cases hlt:kk<l.length
  ·have hlti:(kk:Int)<(l.length:Int):=by omega
   have hltd:decide ((kk:Int)<(l.length:Int))=true:=decide_eq_true hlti
   obtain ⟨ad,rfl,hx0,hx1⟩:=at_T36 (Kd.F_now (Kd.F_grown HF.out HG.out (fun k hk=>by simpa using hk))) (kk:Int) (by omega) hlti
   simp only [Int.toNat_natCast] at hx0 hx1
   have HM:=aK (mk_step l x kk hlt)
   have HVs:=aK (HV.out (rd_T36 l (kk:Int)) (by simp [rd_T36,List.getD_eq_getElem?_getD,List.getElem?_eq_getElem hlt]))
   generalize rd_T36 l (kk:Int)=s at *
   obtain ⟨h0,h1,h2⟩:=HVs.out
   obtain ⟨n0,hn0⟩ : ∃ n:Nat,(n:Int)=s.f0:=⟨s.f0.toNat,by omega⟩
   generalize wr=WX at *
   have HN:=aK (show WX.heap.size≠b from fun e=>by have:=blk_lt HS.out;omega)
   have HH0:=aK h0
   have HH1:=aK h1
   have HH2:=aK h2
   have HN0:=aK hn0
   have HLT:=aK hlt
   have HGG:=aK hgg
   clear h0 h1 h2 hn0 hgg hkk
   go_wp2
   clear hx0 hx1 hlti hltd hlt
   go_loopg [6] 257 (fun gg s6 wr=>∃ n:Nat,s.f0≤(n:Int)∧(n:Int)≤s.f1∧257≤gg+n∧s6 = .int .i64 n∧Aside0 (WX.grownBy wr (some b))∧Aside0 (wr.heap[b]?=some (.cells (setF (mkIn (mk l x kk) s n)) 56 (0,0)))∧Aside0 (wr.heap[WX.heap.size]?=some (.cells #[.int .i64 s.f0,.int .i64 s.f1] 36 (0,0))))
   case atStart=>exact ⟨n0,by have:=HN0.out;omega,by have:=HN0.out;have:=HH1.out;omega,by omega,by rw [HN0.out],⟨World.grownBy_alloc _ _ _⟩,⟨by rw [HN0.out,mkIn_zero];exact blk_alloc HS.out _⟩,⟨blk_new _ _⟩⟩
   case round =>
    obtain ⟨n,hn0,hn1,hng,rfl,HGI,HSI,HXI⟩:=hrel
    have hc1:=(blk_cell HXI.out 1).trans rfl
    by_cases hlt:(n:Int)<s.f1
    ·have hltd:decide ((n:Int)<s.f1)=true:=decide_eq_true hlt
     have hn256:n<256:=by have:=HH2.out;omega
     have hb0:=(blk_cell HSI.out n).trans (setF_get _ n hn256)
     have hb1:=blk_frozen HSI.out n
     have q0:(0:Int)≤(n:Int):=by omega
     have q1:(n:Int)<256:=by omega
     have HW:=aK (show wrap64 ((n:Int)+1)=((n+1:Nat):Int) by unfold wrap64;omega)
     have HNN:=aK (show s.f0≤(n:Int)∧(n:Int)<s.f1∧257≤gk+n∧n<256 from ⟨hn0,hlt,hng,hn256⟩)
     clear hn0 hn1 hng hlt
     go_wp2
     go_roundg (257-(n+1))
     case measure=>have:=HNN.out;omega
     case rel=>exact ⟨n+1,by have:=HNN.out;omega,by have:=HNN.out;omega,by omega,by first|rfl|exact congrArg (Value.int .i64) HW.out|exact congrArg (Value.int .i64) (by omega),⟨World.grownBy.trans HGI.out (grown_cellB _ _ _ _)⟩,⟨by rw [blk_set HSI.out,setF_set _ (mkIn (mk l x kk) s ((n+1:Nat):Int)) n HNN.out.2.2.2 true (mkIn_step _ _ _ HNN.out.1)]⟩,⟨blk_far HXI.out HN.out _⟩⟩
    ·have hltd:decide ((n:Int)<s.f1)=false:=decide_eq_false hlt
     have HE:=aK (show (n:Int)=s.f1 by omega)
     clear hn0 hn1 hng hlt
     have HKW:=aK (show wrap64 ((kk:Int)+1)=((kk+1:Nat):Int) by have:=HLT.out;have:=HL.out;unfold wrap64;omega)
     go_wp2
     go_roundg (l.length-(kk+1))
     case measure=>have:=HLT.out;have:=HGG.out;omega
     case rel=>exact ⟨kk+1,by have:=HLT.out;omega,by omega,by first|exact congrArg (Value.int .i64) HKW.out|rfl,⟨World.grownBy.trans HG.out HGI.out⟩,⟨by rw [← HM.out,← HE.out];exact HSI.out⟩⟩
  ·have hltd:decide ((kk:Int)<(l.length:Int))=false:=decide_eq_false (by omega)
   obtain rfl:kk=l.length:=by omega
   go_wp2
   go_end0
   exact ⟨rfl,HG.out,HS.out⟩
theorem heapP:Kd.Heap k36:=Kd.heap_iso _ (Kd.heap_pair (Kd.heap_int .i64) (Kd.heap_int .i64))
theorem F_ne {α:Type} {d:Kd α} {w W:World} {A:Option Addr} {n b:Nat} {xs:List α} (h:Kd.F d w (fun k=>k<w.heap.size) A n xs) (hb:Below w.heap.size w W) (hn:w.heap.size≤b):Kd.F d W (fun k=>k≠b) A n xs:=Kd.F_mono (Kd.F_step h (fun k hk _=>hb.block k hk)) (fun k hk=>by have:k<w.heap.size:=hk;omega)
theorem below_grown {w W W1:World} {b:Nat} (hb:Below w.heap.size w W) (hg:W.grownBy W1 (some b)) (hn:w.heap.size≤b):Below w.heap.size w W1:=Below.grown hb hg hb.size (fun k hk=>by cases hk;exact hn)
def bitsL (x:Nat→Bool):List Bool:=(List.range 256).map x
def combTo (op:Bool→Bool→Bool) (x y:Nat→Bool) (n:Nat):Nat→Bool:=fun j=>if j<n then op (x j) (y j) else x j
theorem combTo_zero (op:Bool→Bool→Bool) (x y:Nat→Bool):combTo op x y 0=x:=by funext j;simp [combTo]
theorem combTo_at (op:Bool→Bool→Bool) (x y:Nat→Bool) (n:Nat):combTo op x y n n=x n:=by simp [combTo]
theorem combTo_step (op:Bool→Bool→Bool) (x y:Nat→Bool) (n:Nat) : ∀ j,combTo op x y (n+1) j=if j=n then op (x n) (y n) else combTo op x y n j:=by
 intro j;unfold combTo
 by_cases e:j=n
 ·subst e;rw [if_pos (by omega),if_pos rfl]
 ·rw [if_neg e]
  by_cases h:j<n
  ·rw [if_pos h,if_pos (by omega)]
  ·rw [if_neg h,if_neg (by omega)]
theorem bits_len (x:Nat→Bool):(bitsL x).length=256:=by unfold bitsL;simp
theorem bits_all (op:Bool→Bool→Bool) (x y:Nat→Bool):bitsL (combTo op x y 256)=bitsL (fun j=>op (x j) (y j)):=by
 unfold bitsL
 refine List.map_congr_left (fun j hj=>?_)
 unfold combTo
 rw [if_pos (List.mem_range.mp hj)]
theorem C_bits {W:World} {b:Nat} {t:TypeId} {y:Nat→Bool} (h:W.heap[b]?=some (.cells (setF y) t (0,0))):Kd.C Kd.bool W (some ⟨b,0,none⟩) (bitsL y).length (bitsL y):=by
 refine ⟨rfl,by rw [bits_len];omega,fun _=>⟨⟨b,0,none⟩,rfl,fun j p hj=>?_⟩⟩
 have hlt:j<256:=by have:=(List.getElem?_eq_some_iff.mp hj).1;rw [bits_len] at this;exact this
 have hp:p=y j:=by unfold bitsL at hj;rw [List.getElem?_map,List.getElem?_range hlt] at hj;simpa using hj.symm
 subst hp
 refine ⟨[.bool (y j)],rfl,rfl,fun i u hi=>?_⟩
 cases i with
 | zero =>
  obtain rfl:Value.bool (y j)=u:=by simpa using hi
  have:=(blk_cell h j).trans (setF_get y j hlt)
  have e:Addr.add ⟨b,0,none⟩ (j*1+0)=⟨b,j,none⟩:=by unfold Addr.add;by_cases h0:j=0 <;> simp [h0]
  show W.cell? (Addr.add ⟨b,0,none⟩ (j*1+0))=_
  rw [e];exact this
 | succ i=>simp at hi
def goodS (l:List S36):Bool:=l.all fun s=>decide (0≤s.f0) && (decide (s.f0≤s.f1) && decide (s.f1≤256))
theorem goodS_facts {l:List S36} (h:goodS l=true) : ∀ s∈l,0≤s.f0∧s.f0≤s.f1∧s.f1≤256:=by
 unfold goodS at h
 simp only [List.all_eq_true,Bool.and_eq_true,decide_eq_true_eq] at h
 exact h
def noBits:Nat→Bool:=fun _=>false
def marked (l:List S36):Nat→Bool:=mk l noBits l.length
def combF (k:Nat) (op:Bool→Bool→Bool) (l0 l1:List S36):Option (List S36×Int):=(scan_Valid.f k l0 256).bind fun v=>if v=true then (scan_Valid.f k l1 256).bind fun u=>if u=true then (if (l0.length≤1000∧l1.length≤1000)∧(goodS l0 && goodS l1)=true then (scan_spans.f k (bitsL fun j=>op (marked l0 j) (marked l1 j))).bind fun r=>some (r,0) else none) else some ([],2) else some ([],2)
theorem combF_mono (op:Bool→Bool→Bool) (a b:List S36) (k:Nat):LeO (combF k op a b) (combF (k+1) op a b):=by
 unfold combF
 exact LeO.bind (scan_Valid.mono _ _ _) (fun _=>LeO.ite (LeO.bind (scan_Valid.mono _ _ _) (fun _=>LeO.ite (LeO.ite (LeO.bind (scan_spans.mono _ _) (fun _=>LeO.refl _)) (LeO.refl _)) (LeO.refl _))) (LeO.refl _))
set_option maxHeartbeats 8000000 in
theorem combine_calls (g : Nat) (op : Bool → Bool → Bool) (eg : ∀ args w, (callFunc g args).run Try.prog w = .ok (.enter g args) w) (hop : ∀ (V : World) (p q : Bool), Calls Try.prog g #[.bool p, .bool q] V fun e w' => e = .returned (.bool (op p q)) ∧ Below V.heap.size V w') (k : Nat) (A0 : Option Addr) (c0 : Nat) (l0 : List S36) (A1 : Option Addr) (c1 : Nat) (l1 : List S36) (r1 : List S36) (r2 : Int) (w : World) (hr0 : Kd.C k36 w A0 l0.length l0) (hc0 : l0.length ≤ c0) (hr1 : Kd.C k36 w A1 l1.length l1) (hc1 : l1.length ≤ c1) (h : combF k op l0 l1 = some (r1, r2)) :
  Calls Try.prog 14 #[.slice A0 l0.length c0,.slice A1 l1.length c1,.func (.func g) #[] #[]] w fun e w'=>∃ v0:Value,e = .returned (.tuple #[v0,.int .i64 r2])∧Kd.R k36 36 w' w.heap.size (fun _=>True) v0 r1∧Below w.heap.size w w':=by
 have hu:=Try.underlying36
 have hu2:=Try.underlying56
 have HR0:=aK hr0
 have HR1:=aK hr1
 have HC0:=aK hc0
 have HC1:=aK hc1
 have HOP:=aK hop
 clear hr0 hr1 hc0 hc1 hop
 obtain ⟨v,hv,h⟩:=Option.bind_eq_some_iff.mp h
 have HV:=aK hv
 clear hv
 cases v with
 | false =>
  simp only [Bool.false_eq_true,if_false,Option.some.injEq,Prod.mk.injEq] at h
  obtain ⟨rfl,rfl⟩:=h
  go_enter Try.func14,Try.ntmps14
  go_wp2_with fail
  refine (scan_Valid.calls k A0 c0 l0 256 false _ HR0.out HC0.out HV.out).mono ?_
  rintro e W1 ⟨rfl,hb⟩
  go_wp2
  go_ret2
  exact ⟨_,rfl,Kd.R_nil _ _ _ _ _,hb⟩
 | true =>
  rw [if_pos rfl] at h
  obtain ⟨u,hv2,h⟩:=Option.bind_eq_some_iff.mp h
  have HV2:=aK hv2
  clear hv2
  cases u with
  | false =>
   simp only [Bool.false_eq_true,if_false,Option.some.injEq,Prod.mk.injEq] at h
   obtain ⟨rfl,rfl⟩:=h
   go_enter Try.func14,Try.ntmps14
   go_wp2_with fail
   refine (scan_Valid.calls k A0 c0 l0 256 true _ HR0.out HC0.out HV.out).mono ?_
   rintro e W1 ⟨rfl,hb⟩
   have HB1:=aK hb
   clear hb
   go_wp2_with fail
   refine (scan_Valid.calls k A1 c1 l1 256 false _ (Kd.C_below HR1.out HB1.out) HC1.out HV2.out).mono ?_
   rintro e W2 ⟨rfl,hb⟩
   go_wp2
   go_ret2
   exact ⟨_,rfl,Kd.R_nil _ _ _ _ _,below_step HB1.out hb⟩
  | true =>
   rw [if_pos rfl] at h
   by_cases hg:(l0.length≤1000∧l1.length≤1000)∧(goodS l0 && goodS l1)=true
   case neg=>rw [if_neg hg] at h;cases h
   rw [if_pos hg] at h
   obtain ⟨r,hs,h⟩:=Option.bind_eq_some_iff.mp h
   simp only [Option.some.injEq,Prod.mk.injEq] at h
   obtain ⟨rfl,rfl⟩:=h
   rw [Bool.and_eq_true] at hg
   have HGG:=aK hg
   have HSP:=aK hs
   clear hg hs
   go_enter Try.func14,Try.ntmps14
   go_wp2_with fail
   refine (scan_Valid.calls k A0 c0 l0 256 true _ HR0.out HC0.out HV.out).mono ?_
   rintro e W1 ⟨rfl,hb⟩
   have HB1:=aK hb
   clear hb
   go_wp2_with fail
   refine (scan_Valid.calls k A1 c1 l1 256 true _ (Kd.C_below HR1.out HB1.out) HC1.out HV2.out).mono ?_
   rintro e W2 ⟨rfl,hb⟩
   have HB2:=aK (below_step HB1.out hb)
   clear hb HB1
   go_wp2_with (first|((with_reducible refine gate_dst (N:=8) rfl ?_);refine box_event ?hg (N:=8) ?hd (cs:=setF noBits) (t:=56) ?hr ?_;(case hd=>rfl);(case hg=>rfl);(case hr=>first|(go_simp;done)|(go_simp;rfl));intro bx hbx W3 hX3 hb3)|((with_reducible refine gate_dst (N:=9) rfl ?_);refine box_event ?hg (N:=9) ?hd (cs:=setF noBits) (t:=56) ?hr ?_;(case hd=>rfl);(case hg=>rfl);(case hr=>first|(go_simp;done)|(go_simp;rfl));intro by_ hby W4 hY4 hb4))
   have HB3:=aK (below_step HB2.out hb3)
   have HF0:=aK (Kd.C_F heapP (Kd.C_below HR0.out HB3.out))
   have hne:bx≠by_:=by have:=hb4.size;have:=blk_lt hX3;omega
   obtain ⟨⟨hl0,hl1⟩,hg0,hg1⟩:=HGG.out
   have HX4:=aK (blk_below hX3 hb4)
   have HB4:=aK (below_step HB3.out hb4)
   have HY4:=aK hY4
   have HG0:=aK hg0
   have HG1:=aK hg1
   have HL0:=aK hl0
   have HL1:=aK hl1
   have HNE:=aK hne
   have HBX:=aK (show w.heap.size≤bx by rw [hbx];exact HB2.out.size)
   have HBY:=aK (show w.heap.size≤by_ by rw [hby];exact HB3.out.size)
   rw [← hbx,← hby]
   clear hg0 hg1 hl0 hl1 hne hX3 hY4 hb3 hb4 HB3 HF0 hbx hby
   refine (mark_calls bx A0 c0 l0 noBits W4 HX4.out (F_ne (Kd.C_F heapP HR0.out) HB4.out HBX.out) HL0.out (goodS_facts HG0.out)).mono ?_
   rintro e W5 ⟨rfl,hg5,hX5⟩
   have HY5:=aK (blk_grown HY4.out hg5 (fun k=>HNE.out (Option.some.inj k).symm))
   have HX5:=aK hX5
   have HB5:=aK (below_grown HB4.out hg5 HBX.out)
   clear hg5 hX5 HY4 HX4 HB4
   go_wp2_with fail
   refine (mark_calls by_ A1 c1 l1 noBits W5 HY5.out (F_ne (Kd.C_F heapP HR1.out) HB5.out HBY.out) HL1.out (goodS_facts HG1.out)).mono ?_
   rintro e W6 ⟨rfl,hg6,hY6⟩
   have HX6:=aK (blk_grown HX5.out hg6 (fun k=>HNE.out (Option.some.inj k)))
   have HY6:=aK hY6
   have HB6:=aK (below_grown HB5.out hg6 HBY.out)
   clear hg6 hY6 HY5 HX5 HB5
   have HM0:=aK (show setF (mk l0 noBits l0.length)=setF (combTo op (marked l0) (marked l1) 0) by rw [combTo_zero];rfl)
   go_wp2
   go_loopg [26] 256 (fun gg s26 wr=>∃ n:Nat,n≤256∧256≤gg+n∧s26 = .int .i64 n∧Aside0 (Below w.heap.size w wr)∧Aside0 (wr.heap[bx]?=some (.cells (setF (combTo op (marked l0) (marked l1) n)) 56 (0,0)))∧Aside0 (wr.heap[by_]?=some (.cells (setF (marked l1)) 56 (0,0))))
   case atStart=>exact ⟨0,by omega,by omega,rfl,HB6,⟨by rw [← HM0.out];exact HX6.out⟩,HY6⟩
   case round =>
    obtain ⟨n,hn,hgg,rfl,HBr,HXr,HYr⟩:=hrel
    clear HX6 HY6 HB6
    by_cases hlt:n<256
    ·have hlti:(n:Int)<256:=by omega
     have hltd:decide ((n:Int)<256)=true:=decide_eq_true hlti
     have q0:(0:Int)≤(n:Int):=by omega
     have HW:=aK (show wrap64 ((n:Int)+1)=((n+1:Nat):Int) by unfold wrap64;omega)
     have HX0:=aK ((blk_cell (blk_drew HXr.out) n).trans ((setF_get _ n hlt).trans (by rw [combTo_at])))
     have HY0:=aK ((blk_cell (blk_drew HYr.out) n).trans (setF_get _ n hlt))
     have HSET:=aK (setF_set (combTo op (marked l0) (marked l1) n) (combTo op (marked l0) (marked l1) (n+1)) n hlt (op (marked l0 n) (marked l1 n)) (combTo_step op (marked l0) (marked l1) n))
     have HCALL:=aK (fun V=>HOP.out V (marked l0 n) (marked l1 n))
     have HLT:=aK hlt
     have HGR:=aK hgg
     generalize marked l0 n=p at *
     generalize marked l1 n=q at *
     clear hn hgg hlt
     go_wp2
     refine start_ (n:=11) (S:=fun w'=>w'.cell? ⟨bx,n,none⟩=some (.bool p)∧w'.cell? ⟨by_,n,none⟩=some (.bool q)) (ds:=[10]) #[false,false,false,false,false,false,false,false,false,false,false] (by kernel_rfl) rfl rfl ⟨HX0.out,HY0.out⟩ (fun hHeld=>?_)
     refine pure_ (i:=0) (N:=some 29) (v:=?_) (a':=?_) #[true,false,false,false,false,false,false,false,false,false,false] rfl rfl (by kernel_rfl) (fun _ _ _ h=>h) (Or.inl ⟨by rfl,?_⟩) ?_ ?_
     rotate_left
     ·intro w'
      go_simp
      with_reducible rfl
     rotate_left
     ·simp only [Act.put,lS,i64_w,i32_w]
      rfl
     refine pure_ (i:=1) (N:=some 30) (v:=?_) (a':=?_) #[true,true,false,false,false,false,false,false,false,false,false] rfl rfl (by kernel_rfl) (fun _ _ _ h=>h) (Or.inl ⟨by rfl,?_⟩) ?_ ?_
     rotate_left
     ·intro w'
      go_simp
      with_reducible rfl
     rotate_left
     ·simp only [Act.put,lS,i64_w,i32_w]
      rfl
     refine pure_ (i:=2) (N:=some 31) (v:=?_) (a':=?_) #[true,true,true,false,false,false,false,false,false,false,false] rfl rfl (by kernel_rfl) (fun _ _ _ h=>h) (Or.inl ⟨by rfl,?_⟩) ?_ ?_
     rotate_left
     ·intro w'
      go_simp
      with_reducible rfl
     rotate_left
     ·simp only [Act.put,lS,i64_w,i32_w]
      rfl
     refine pure_ (i:=3) (N:=some 32) (v:=?_) (a':=?_) #[true,true,true,true,false,false,false,false,false,false,false] rfl rfl (by kernel_rfl) (fun _ _ _ h=>h) (Or.inl ⟨by rfl,?_⟩) ?_ ?_
     rotate_left
     ·intro w'
      go_simp
      with_reducible rfl
     rotate_left
     ·simp only [Act.put,lS,i64_w,i32_w]
      rfl
     refine pure_ (i:=5) (N:=some 34) (v:=?_) (a':=?_) #[true,true,true,true,false,true,false,false,false,false,false] rfl rfl (by kernel_rfl) (fun _ _ _ h=>h) (Or.inl ⟨by rfl,?_⟩) ?_ ?_
     rotate_left
     ·intro w'
      go_simp
      with_reducible rfl
     rotate_left
     ·simp only [Act.put,lS,i64_w,i32_w]
      rfl
     refine pure_ (i:=6) (N:=some 35) (v:=?_) (a':=?_) #[true,true,true,true,false,true,true,false,false,false,false] rfl rfl (by kernel_rfl) (fun _ _ _ h=>h) (Or.inl ⟨by rfl,?_⟩) ?_ ?_
     rotate_left
     ·intro w'
      go_simp
      with_reducible rfl
     rotate_left
     ·simp only [Act.put,lS,i64_w,i32_w]
      rfl
     refine take_ (i:=4) (N:=some 33) (v:=?_) (a':=?_) #[true,true,true,true,true,true,true,false,false,false,false] rfl rfl (by kernel_rfl) (fun _ _ _ h=>h) (Or.inl ⟨by rfl,?_⟩) hHeld ?_ ?_
     rotate_left
     ·rintro w' ⟨s0,s1⟩
      go_simp
      with_reducible rfl
     rotate_left
     ·simp only [Act.put,lS,i64_w,i32_w]
      rfl
     refine take_ (i:=7) (N:=some 36) (v:=?_) (a':=?_) #[true,true,true,true,true,true,true,true,false,false,false] rfl rfl (by kernel_rfl) (fun _ _ _ h=>h) (Or.inl ⟨by rfl,?_⟩) hHeld ?_ ?_
     rotate_left
     ·rintro w' ⟨s0,s1⟩
      go_simp
      with_reducible rfl
     rotate_left
     ·simp only [Act.put,lS,i64_w,i32_w]
      rfl
     refine one_ (i:=8) (N:=some 37) #[true,true,true,true,true,true,true,true,true,false,false] rfl rfl (by kernel_rfl) (by decide) (fun K hK=>?_)
     refine goesv_ #[] #[.bool p,.bool q] eg (by rfl) rfl rfl (by rfl) (by simp only [List.map_toArray,List.map_cons,List.map_nil];rfl) ?_
     refine (HCALL.out _).mono ?_
     rintro e W8 ⟨rfl,hb8⟩
     have HX8:=aK (blk_below (blk_drew HXr.out) hb8)
     have HY8:=aK (blk_below (blk_drew HYr.out) hb8)
     have HB8:=aK (below_step (below_drew1 HBr.out) hb8)
     have hf8:=blk_frozen HX8.out n
     refine ⟨_,rfl,?_⟩
     refine hK.out _ _ ⟨(hb8.cell (World.block_lt_of_cell? _ _ hHeld.1)).trans hHeld.1,(hb8.cell (World.block_lt_of_cell? _ _ hHeld.2)).trans hHeld.2⟩ (fun hHeld=>?_)
     clear hK K
     refine norm_ (a':=?_) ?_ ?_
     rotate_left
     ·show Act.put _ (some 37) _=_
      simp only [Act.put,lS,i64_w,i32_w]
      rfl
     refine pure_ (i:=9) (N:=some 38) (v:=?_) (a':=?_) #[true,true,true,true,true,true,true,true,true,true,false] rfl rfl (by kernel_rfl) (fun _ _ _ h=>h) (Or.inl ⟨by rfl,?_⟩) ?_ ?_
     rotate_left
     ·intro w'
      go_simp
      with_reducible rfl
     rotate_left
     ·simp only [Act.put,lS,i64_w,i32_w]
      rfl
     refine last_ (i:=10) (N:=none) #[true,true,true,true,true,true,true,true,true,true,true] rfl rfl (by kernel_rfl) (by decide) (fun K hK=>?_)
     refine skip_ (w1:=?_) (by rfl) rfl ?_ ?_
     rotate_left
     ·go_simp
      rfl
     refine hK.out _ _ ?_
     clear hK K
     refine done_ (by kernel_rfl) ?_
     have HBS:=aK (show Below w.heap.size w (W8.setCell ⟨bx,n,none⟩ (.bool (op p q))) from below_set HB8.out HBX.out)
     have HXS:=aK ((blk_set HX8.out n (.bool (op p q))).trans (by rw [HSET.out]))
     have HYS:=aK (blk_far (p:=⟨bx,n,none⟩) HY8.out (fun e=>HNE.out e.symm) (.bool (op p q)))
     go_wp2
     go_roundg (256-(n+1))
     case measure=>have:=HGR.out;have:=HLT.out;omega
     case rel=>exact ⟨n+1,by have:=HLT.out;omega,by omega,by first|exact congrArg (Value.int .i64) HW.out|rfl,HBS,HXS,HYS⟩
    ·have hltd:decide ((n:Int)<256)=false:=decide_eq_false (by omega)
     obtain rfl:n=256:=by omega
     have HCB:=aK (C_bits HXr.out)
     rw [bits_all] at HCB
     have HCL:=fun W'=>scan_spans.calls k (some ⟨bx,0,none⟩) 256 (bitsL fun j=>op (marked l0 j) (marked l1 j)) r W'
     rw [bits_len] at HCL
     have HCC:=aK HCL
     clear HCL hn hgg hlt
     go_wp2_with fail
     refine (HCC.out _ (by rw [← bits_len (fun j=>op (marked l0 j) (marked l1 j))];exact HCB.out) (Nat.le_refl _) HSP.out).mono ?_
     rintro e W9 ⟨v0,rfl,hr9,hb9⟩
     go_wp2
     go_ret2
     exact ⟨_,rfl,Kd.R_lower hr9 HBr.out.size,below_step HBr.out hb9⟩
theorem Or1_calls (V:World) (p q:Bool):Calls Try.prog 15 #[.bool p,.bool q] V fun e w'=>e = .returned (.bool (p || q))∧Below V.heap.size V w':=by
 have HB:=aK (Below.refl V.heap.size V)
 cases p <;> cases q
 all_goals
  go_enter Try.func15,Try.ntmps15
  go_wp2
  go_ret
  exact ⟨rfl,HB.out⟩
def scan_Or.f (k:Nat) (l0 l1:List S36):Option (List S36×Int):=combF k (fun p q=>p || q) l0 l1
theorem scan_Or.mono : ∀ a0 a1 k,LeO (scan_Or.f k a0 a1) (scan_Or.f (k+1) a0 a1):=fun _ _ _=>combF_mono _ _ _ _
theorem scan_Or.calls (k : Nat) (A0 : Option Addr) (c0 : Nat) (l0 : List S36) (A1 : Option Addr) (c1 : Nat) (l1 : List S36) (r1 : List S36) (r2 : Int) (w : World) (hr0 : Kd.C k36 w A0 l0.length l0) (hc0 : l0.length ≤ c0) (hr1 : Kd.C k36 w A1 l1.length l1) (hc1 : l1.length ≤ c1) (h : scan_Or.f k l0 l1 = some (r1, r2)) :
  Calls Try.prog 5 #[.slice A0 l0.length c0,.slice A1 l1.length c1] w fun e w'=>∃ v0_:Value,e = .returned (.tuple #[v0_,.int .i64 r2])∧Kd.R k36 36 w' w.heap.size (fun _=>True) v0_ r1∧Below w.heap.size w w':=by
 have HC:=aK (combine_calls 15 (fun p q=>p || q) (enters_own Try.func15 (by kernel_rfl) rfl) Or1_calls k A0 c0 l0 A1 c1 l1 r1 r2 w hr0 hc0 hr1 hc1 h)
 clear hr0 hc0 hr1 hc1 h
 go_enter Try.func5,Try.ntmps5
 go_wp2_with fail
 refine HC.out.mono ?_
 rintro e W1 ⟨v0,rfl,hr,hb⟩
 have HR:=aK hr
 have HB:=aK hb
 clear hr hb HC
 go_wp2
 go_ret2
 exact ⟨_,rfl,HR.out,HB.out⟩
theorem And1_calls (V:World) (p q:Bool):Calls Try.prog 16 #[.bool p,.bool q] V fun e w'=>e = .returned (.bool (p && q))∧Below V.heap.size V w':=by
 have HB:=aK (Below.refl V.heap.size V)
 cases p <;> cases q
 all_goals
  go_enter Try.func16,Try.ntmps16
  go_wp2
  go_ret
  exact ⟨rfl,HB.out⟩
def scan_And.f (k:Nat) (l0 l1:List S36):Option (List S36×Int):=combF k (fun p q=>p && q) l0 l1
theorem scan_And.mono : ∀ a0 a1 k,LeO (scan_And.f k a0 a1) (scan_And.f (k+1) a0 a1):=fun _ _ _=>combF_mono _ _ _ _
theorem scan_And.calls (k : Nat) (A0 : Option Addr) (c0 : Nat) (l0 : List S36) (A1 : Option Addr) (c1 : Nat) (l1 : List S36) (r1 : List S36) (r2 : Int) (w : World) (hr0 : Kd.C k36 w A0 l0.length l0) (hc0 : l0.length ≤ c0) (hr1 : Kd.C k36 w A1 l1.length l1) (hc1 : l1.length ≤ c1) (h : scan_And.f k l0 l1 = some (r1, r2)) :
  Calls Try.prog 6 #[.slice A0 l0.length c0,.slice A1 l1.length c1] w fun e w'=>∃ v0_:Value,e = .returned (.tuple #[v0_,.int .i64 r2])∧Kd.R k36 36 w' w.heap.size (fun _=>True) v0_ r1∧Below w.heap.size w w':=by
 have HC:=aK (combine_calls 16 (fun p q=>p && q) (enters_own Try.func16 (by kernel_rfl) rfl) And1_calls k A0 c0 l0 A1 c1 l1 r1 r2 w hr0 hc0 hr1 hc1 h)
 clear hr0 hc0 hr1 hc1 h
 go_enter Try.func6,Try.ntmps6
 go_wp2_with fail
 refine HC.out.mono ?_
 rintro e W1 ⟨v0,rfl,hr,hb⟩
 have HR:=aK hr
 have HB:=aK hb
 clear hr hb HC
 go_wp2
 go_ret2
 exact ⟨_,rfl,HR.out,HB.out⟩
theorem Without1_calls (V:World) (p q:Bool):Calls Try.prog 17 #[.bool p,.bool q] V fun e w'=>e = .returned (.bool (p && !q))∧Below V.heap.size V w':=by
 have HB:=aK (Below.refl V.heap.size V)
 cases p <;> cases q
 all_goals
  go_enter Try.func17,Try.ntmps17
  go_wp2
  go_ret
  exact ⟨rfl,HB.out⟩
def scan_Without.f (k:Nat) (l0 l1:List S36):Option (List S36×Int):=combF k (fun p q=>p && !q) l0 l1
theorem scan_Without.mono : ∀ a0 a1 k,LeO (scan_Without.f k a0 a1) (scan_Without.f (k+1) a0 a1):=fun _ _ _=>combF_mono _ _ _ _
theorem scan_Without.calls (k : Nat) (A0 : Option Addr) (c0 : Nat) (l0 : List S36) (A1 : Option Addr) (c1 : Nat) (l1 : List S36) (r1 : List S36) (r2 : Int) (w : World) (hr0 : Kd.C k36 w A0 l0.length l0) (hc0 : l0.length ≤ c0) (hr1 : Kd.C k36 w A1 l1.length l1) (hc1 : l1.length ≤ c1) (h : scan_Without.f k l0 l1 = some (r1, r2)) :
  Calls Try.prog 7 #[.slice A0 l0.length c0,.slice A1 l1.length c1] w fun e w'=>∃ v0_:Value,e = .returned (.tuple #[v0_,.int .i64 r2])∧Kd.R k36 36 w' w.heap.size (fun _=>True) v0_ r1∧Below w.heap.size w w':=by
 have HC:=aK (combine_calls 17 (fun p q=>p && !q) (enters_own Try.func17 (by kernel_rfl) rfl) Without1_calls k A0 c0 l0 A1 c1 l1 r1 r2 w hr0 hc0 hr1 hc1 h)
 clear hr0 hc0 hr1 hc1 h
 go_enter Try.func7,Try.ntmps7
 go_wp2_with fail
 refine HC.out.mono ?_
 rintro e W1 ⟨v0,rfl,hr,hb⟩
 have HR:=aK hr
 have HB:=aK hb
 clear hr hb HC
 go_wp2
 go_ret2
 exact ⟨_,rfl,HR.out,HB.out⟩
end Go.Proofs.Ytckjlckhjcbddaa.PH3
