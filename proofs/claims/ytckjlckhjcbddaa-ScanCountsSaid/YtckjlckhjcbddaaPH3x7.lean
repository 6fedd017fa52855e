import Derived.Test.YtckjlckhjcbddaaPH3x0
import Derived.Test.YtckjlckhjcbddaaPH3x3
import Derived.Test.YtckjlckhjcbddaaPH3x4
import Derived.Test.YtckjlckhjcbddaaPH3x5
import Derived.Test.YtckjlckhjcbddaaPH3x6
set_option maxRecDepth 100000
namespace Go.Proofs.Ytckjlckhjcbddaa.PH3
open Go.RowKit Go.Proofs.YtckjlckhjcbddaaW.PrintWords Go.Proofs.YtckjlckhjcbddaaW.PrintLast Go.Proofs.YtckjlckhjcbddaaW.PrintMore
attribute [local go_sem] max2_int min2_int max_two min_two max_three min_three max_four min_four
set_option linter.unusedVariables false
set_option linter.unusedSimpArgs false
def pen_hull.f (l0:List S31):Option (List S31):=(api_Point_77.f l0).bind fun a=>(api_Point_78.f a).bind fun b=>(api_Point_79.f b).bind fun c =>
 if (c.length:Int)<3 then some c else (pen_chain.f c).bind fun low=>(api_Point_81.f c).bind fun d=>(pen_chain.f d).bind fun high =>
 if 1≤low.length∧1≤high.length∧low.length+high.length≤1000000 then some (low.take (low.length-1)++high.take (high.length-1)) else none
set_option maxHeartbeats 4000000 in
theorem pen_hull.calls (A0 : Option Addr) (c0 : Nat) (l0 : List S31) (r : List S31) (w : World) (hr0 : Kd.C k31 w A0 l0.length l0) (hc0 : l0.length ≤ c0) (h : pen_hull.f l0 = some r) :
  Calls Try.prog 60 #[.slice A0 l0.length c0] w fun e w'=>∃ v0_:Value,e = .returned v0_∧Kd.R k31 31 w' w.heap.size (fun _=>True) v0_ r∧Below w.heap.size w w':=by
 have hu:=Try.underlying31
 unfold pen_hull.f at h
 obtain ⟨a,ha,h⟩:=Option.bind_eq_some_iff.mp h
 obtain ⟨b,hb,h⟩:=Option.bind_eq_some_iff.mp h
 obtain ⟨c,hc,h⟩:=Option.bind_eq_some_iff.mp h
 have HA:=aK ha
 have HB:=aK hb
 have HC:=aK hc
 have H:=aK h
 have HR0:=aK hr0
 have HC0:=aK hc0
 clear ha hb hc h hr0 hc0
 go_enter Try.func60,Try.ntmps60
 go_wp2_with fail
 refine (api_Point_77.calls A0 c0 l0 a _ HR0.out HC0.out HA.out).mono ?_
 rintro e W1 ⟨v1,rfl,r1,b1⟩
 have R1:=aK r1
 have B1:=aK b1
 clear r1 b1
 go_wp2_with fail
 refine (api_Point_78.calls (fun _=>True) v1 a b w _ B1.out R1.out HB.out).mono ?_
 rintro e W2 ⟨rfl,r2,b2,_⟩
 have R2:=aK (Kd.R_mono r2 (fun _ _=>trivial):Kd.R k31 31 W2 w.heap.size (fun _=>True) v1 b)
 have B2:=aK b2
 clear r2 b2 R1 B1
 go_wp2_with fail
 refine (api_Point_79.calls (fun _=>True) v1 b c w _ B2.out R2.out HC.out).mono ?_
 rintro e W3 ⟨v2,rfl,r3,b3⟩
 obtain ⟨A2,c2,rfl⟩:=Kd.R_slice r3
 have R3:=aK r3
 have B3:=aK b3
 clear r3 b3 R2 B2
 by_cases h3:(c.length:Int)<3
 ·have h3b:decide ((c.length:Int)<3)=true:=decide_eq_true h3
  have hh:=H.out
  rw [if_pos h3] at hh
  obtain rfl:=Option.some.inj hh
  clear hh H h3
  go_wp2
  go_ret
  exact ⟨_,rfl,R3.out,B3.out⟩
 ·have h3b:decide ((c.length:Int)<3)=false:=decide_eq_false h3
  have hh:=H.out
  rw [if_neg h3] at hh
  obtain ⟨low,hlow,hh⟩:=Option.bind_eq_some_iff.mp hh
  obtain ⟨d,hd,hh⟩:=Option.bind_eq_some_iff.mp hh
  obtain ⟨high,hhigh,hh⟩:=Option.bind_eq_some_iff.mp hh
  have HLOW:=aK hlow
  have HD:=aK hd
  have HHIGH:=aK hhigh
  by_cases hok:1≤low.length∧1≤high.length∧low.length+high.length≤1000000
  case neg=>rw [if_neg hok] at hh;exact absurd hh (by simp)
  rw [if_pos hok] at hh
  have HRES:=aK (Option.some.inj hh)
  have hdl:d.length=c.length:=by
   unfold api_Point_81.f at hd
   split at hd
   ·rw [← Option.some.inj hd,List.length_reverse]
   ·cases hd
  have HDL:=aK hdl
  have HOK:=aK hok
  clear hlow hd hhigh hh H h3 hok hdl
  go_wp2_with fail
  have rd:=Kd.R_reads' R3.out
  refine (pen_chain.calls A2 c2 c low _ rd.2.2 rd.2.1 HLOW.out).mono ?_
  rintro e W4 ⟨v3,rfl,r4,b4⟩
  have R4:=aK r4
  have B4:=aK b4
  have R3':=aK (Kd.R_old R3.out b4)
  have BB4:=aK (below_step B3.out b4)
  have HS3:=aK (below_size B3.out)
  clear r4 b4 rd
  go_wp2_with fail
  refine (api_Point_81.calls (fun k=>k<W3.heap.size) _ c d w _ BB4.out (Kd.R_mono R3'.out (fun k hk=>hk.2)) HD.out).mono ?_
  rintro e W5 ⟨rfl,r5,b5,kp5⟩
  have R4':=aK (Kd.R_kept (Kd.R_bound R4.out) kp5 (fun k hk hk2=>by have:=hk.2.1;omega))
  have R5:=aK r5
  have B5:=aK b5
  clear r5 b5 kp5 R3' R3 B3 R4 B4 BB4
  obtain ⟨A3,c3,rfl⟩:=Kd.R_slice R4'.out
  go_wp2_with fail
  have rd:=Kd.R_reads' R5.out
  rw [← HDL.out] at rd ⊢
  refine (pen_chain.calls A2 c2 d high _ rd.2.2 (by omega) HHIGH.out).mono ?_
  rintro e W6 ⟨v4,rfl,r6,b6⟩
  obtain ⟨A4,c4,rfl⟩:=Kd.R_slice r6
  have R6:=aK r6
  have R4'':=aK (Kd.R_old R4'.out b6)
  have B6:=aK (below_step B5.out b6)
  clear r6 b6 rd R5 R4'
  obtain ⟨ad3,c3',e3⟩:=Kd.R_slice1 R4''.out (by have:=HOK.out.1;omega)
  obtain ⟨ad4,c4',e4⟩:=Kd.R_slice1 R6.out (by have:=HOK.out.2.1;omega)
  obtain ⟨rfl,rfl⟩:A3=some ad3∧c3=c3':=by injection e3 with q1 _ q2;exact ⟨q1,q2⟩
  obtain ⟨rfl,rfl⟩:A4=some ad4∧c4=c4':=by injection e4 with q1 _ q2;exact ⟨q1,q2⟩
  have n3:=(Kd.R_reads' R4''.out).2.1
  have n4:=(Kd.R_reads' R6.out).2.1
  have s1:wrap64 ((low.length:Int)-1)=((low.length-1:Nat):Int):=by have:=HOK.out;unfold wrap64;omega
  have s2:wrap64 ((high.length:Int)-1)=((high.length-1:Nat):Int):=by have:=HOK.out;unfold wrap64;omega
  have s3:low.length-1≤c3:=by omega
  have s4:high.length-1≤c4:=by omega
  have O3:=aK (Kd.R_take (Kd.R_mono (Kd.R_lower (Kd.R_drew R4''.out) HS3.out) (fun _ _=>trivial : ∀ k,_→(fun _:Nat=>True) k)) (show low.length-1≤low.length by omega))
  have hm4:(high.take (high.length-1)).length=high.length-1:=by rw [List.length_take];omega
  have O4:=(Kd.R_reads' (Kd.R_take (Kd.R_drew R6.out) (show high.length-1≤high.length by omega))).2.2
  rw [hm4] at O4
  have O4:=aK O4
  have BD:=aK (below_drew1 B6.out)
  clear n3 n4 e3 e4 hm4
  go_wp2
  refine start_ (n:=12) (S:=fun w'=>True) (ds:=[10,11]) #[false,false,false,false,false,false,false,false,false,false,false,false] (by kernel_rfl) rfl rfl trivial (fun hHeld=>?_)
  refine pure_ (i:=0) (N:=some 21) (v:=?_) (a':=?_) #[true,false,false,false,false,false,false,false,false,false,false,false] rfl rfl (by kernel_rfl) (fun _ _ _ h=>h) (Or.inl ⟨by rfl,?_⟩) ?_ ?_
  rotate_left
  ·intro w'
   go_simp
   with_reducible rfl
  rotate_left
  ·simp only [Act.put,lS,i64_w,i32_w]
   rfl
  refine pure_ (i:=1) (N:=some 22) (v:=?_) (a':=?_) #[true,true,false,false,false,false,false,false,false,false,false,false] rfl rfl (by kernel_rfl) (fun _ _ _ h=>h) (Or.inl ⟨by rfl,?_⟩) ?_ ?_
  rotate_left
  ·intro w'
   go_simp
   with_reducible rfl
  rotate_left
  ·simp only [Act.put,lS,i64_w,i32_w]
   rfl
  refine pure_ (i:=2) (N:=some 23) (v:=?_) (a':=?_) #[true,true,true,false,false,false,false,false,false,false,false,false] rfl rfl (by kernel_rfl) (fun _ _ _ h=>h) (Or.inl ⟨by rfl,?_⟩) ?_ ?_
  rotate_left
  ·intro w'
   go_simp
   with_reducible rfl
  rotate_left
  ·simp only [Act.put,lS,i64_w,i32_w]
   rfl
  refine pure_ (i:=3) (N:=some 24) (v:=?_) (a':=?_) #[true,true,true,true,false,false,false,false,false,false,false,false] rfl rfl (by kernel_rfl) (fun _ _ _ h=>h) (Or.inl ⟨by rfl,?_⟩) ?_ ?_
  rotate_left
  ·intro w'
   go_simp
   with_reducible rfl
  rotate_left
  ·simp only [Act.put,lS,i64_w,i32_w]
   rfl
  refine pure_ (i:=4) (N:=some 25) (v:=?_) (a':=?_) #[true,true,true,true,true,false,false,false,false,false,false,false] rfl rfl (by kernel_rfl) (fun _ _ _ h=>h) (Or.inl ⟨by rfl,?_⟩) ?_ ?_
  rotate_left
  ·intro w'
   go_simp
   with_reducible rfl
  rotate_left
  ·simp only [Act.put,lS,i64_w,i32_w]
   rfl
  refine pure_ (i:=5) (N:=some 26) (v:=?_) (a':=?_) #[true,true,true,true,true,true,false,false,false,false,false,false] rfl rfl (by kernel_rfl) (fun _ _ _ h=>h) (Or.inl ⟨by rfl,?_⟩) ?_ ?_
  rotate_left
  ·intro w'
   go_simp
   with_reducible rfl
  rotate_left
  ·simp only [Act.put,lS,i64_w,i32_w]
   rfl
  refine pure_ (i:=6) (N:=some 27) (v:=?_) (a':=?_) #[true,true,true,true,true,true,true,false,false,false,false,false] rfl rfl (by kernel_rfl) (fun _ _ _ h=>h) (Or.inl ⟨by rfl,?_⟩) ?_ ?_
  rotate_left
  ·intro w'
   go_simp
   with_reducible rfl
  rotate_left
  ·simp only [Act.put,lS,i64_w,i32_w]
   rfl
  refine pure_ (i:=7) (N:=some 28) (v:=?_) (a':=?_) #[true,true,true,true,true,true,true,true,false,false,false,false] rfl rfl (by kernel_rfl) (fun _ _ _ h=>h) (Or.inl ⟨by rfl,?_⟩) ?_ ?_
  rotate_left
  ·intro w'
   go_simp
   with_reducible rfl
  rotate_left
  ·simp only [Act.put,lS,i64_w,i32_w]
   rfl
  refine pure_ (i:=8) (N:=some 29) (v:=?_) (a':=?_) #[true,true,true,true,true,true,true,true,true,false,false,false] rfl rfl (by kernel_rfl) (fun _ _ _ h=>h) (Or.inl ⟨by rfl,?_⟩) ?_ ?_
  rotate_left
  ·intro w'
   go_simp
   with_reducible rfl
  rotate_left
  ·simp only [Act.put,lS,i64_w,i32_w]
   rfl
  refine pure_ (i:=9) (N:=some 30) (v:=?_) (a':=?_) #[true,true,true,true,true,true,true,true,true,true,false,false] rfl rfl (by kernel_rfl) (fun _ _ _ h=>h) (Or.inl ⟨by rfl,?_⟩) ?_ ?_
  rotate_left
  ·intro w'
   go_simp
   with_reducible rfl
  rotate_left
  ·simp only [Act.put,lS,i64_w,i32_w]
   rfl
  refine last_ (i:=10) (N:=some 31) #[true,true,true,true,true,true,true,true,true,true,true,false] rfl rfl (by kernel_rfl) (by decide) (fun K hK=>?_)
  refine Kd.R_append_rows_step k31 (w0:=w) w.heap.size (by rfl) (.tmp 25) (.tmp 30) 32 31 (.agg #[(.int .i64 0),(.int .i64 0)]) 16 rfl Try.underlying32 info31 rfl (by decide) (by omega) (.slice (some ad3) (low.length-1) c3) (low.take (low.length-1)) (high.take (high.length-1)) (some ad4) (high.length-1) c4 (fun _=>True) (fun _=>False) rfl rfl O3.out O4.out (fun _ _ h=>h) (fun _ h=>h.elim) (fun _ _=>trivial) BD.out (below_size BD.out) ?aL ?_
  case aL=>have:=HOK.out;rw [List.length_take];omega
  intro v5 w7 ho hbb _ _
  refine hK.out _ _ ?_
  clear hK K
  refine norm_ (a':=?_) ?_ ?_
  rotate_left
  ·show Act.put _ (some 31) _=_
   simp only [Act.put,lS,i64_w,i32_w]
   rfl
  refine pure_ (i:=11) (N:=some 2) (v:=?_) (a':=?_) #[true,true,true,true,true,true,true,true,true,true,true,true] rfl rfl (by kernel_rfl) (fun _ _ _ h=>h) (Or.inl ⟨by rfl,?_⟩) ?_ ?_
  rotate_left
  ·intro w'
   go_simp
   with_reducible rfl
  rotate_left
  ·simp only [Act.put,lS,i64_w,i32_w]
   rfl
  refine done_ (by kernel_rfl) ?_
  have HO:=aK ho
  have HBB:=aK hbb
  clear ho hbb
  go_wp2
  go_ret
  exact ⟨_,rfl,by rw [← HRES.out];exact HO.out,HBB.out⟩
def pen_plus.f (a0_0:Int) (a0_1:Int) (a1_0:Int) (a1_1:Int):Option (Int×Int):=some (wrap64 (a0_0+a1_0),wrap64 (a0_1+a1_1))
set_option maxHeartbeats 8000000 in
theorem pen_plus.calls (a0_0 : Int) (a0_1 : Int) (a1_0 : Int) (a1_1 : Int) (r1 : Int) (r2 : Int) (w : World) (h : pen_plus.f a0_0 a0_1 a1_0 a1_1 = some (r1, r2)) :
  Calls Try.prog 82 #[.agg #[.int .i64 a0_0,.int .i64 a0_1],.agg #[.int .i64 a1_0,.int .i64 a1_1]] w fun e w'=>e = .returned (.agg #[.int .i64 r1,.int .i64 r2])∧Below w.heap.size w w':=by
 have hu31:=Try.underlying31
 have HB:=aK (Below.refl w.heap.size w)
 have H:(some (wrap64 (a0_0+a1_0),wrap64 (a0_1+a1_1)))=some (r1,r2):=h
 clear h
 simp only [Option.some.injEq,Prod.mk.injEq] at H
 obtain ⟨rfl,rfl⟩:=H
 go_enter Try.func82,Try.ntmps82
 go_wp2_with (first|((with_reducible refine gate_dst (N:=2) rfl ?_);refine box_event ?hg (N:=2) ?hd (cs:=#[.int .i64 a0_0,.int .i64 a0_1]) (t:=31) ?hr ?_;(case hd=>rfl);(case hg=>rfl);(case hr=>first|(go_simp;done)|(go_simp;rfl));intro gb137 hg w3 hbox hb;have n0_:=aK (below_step (by repeat (first|(with_reducible first|exact HB.out|apply below_alloc|apply pw_below_drewN|apply below_drew1)|exact HB.out)) hb);have n1_:=aK (hbox);have n2_:=aK ((by rw [hg];exact (below_size (by repeat (first|(with_reducible first|exact HB.out|apply below_alloc|apply pw_below_drewN|apply below_drew1)|exact HB.out))):w.heap.size≤gb137));have n3_:=n2_;clear HB;have HB:=n0_;have BK137:=n1_;have GW137:=n2_;have GE137:=n3_;clear n0_ n1_ n2_ n3_;clear hb hbox hg)|((with_reducible refine gate_dst (N:=3) rfl ?_);refine box_event ?hg (N:=3) ?hd (cs:=#[.int .i64 a1_0,.int .i64 a1_1]) (t:=31) ?hr ?_;(case hd=>rfl);(case hg=>rfl);(case hr=>first|(go_simp;done)|(go_simp;rfl));intro gb138 hg w4 hbox hb;have n0_:=aK (blk_below (g:=gb137) (o:=.cells #[.int .i64 a0_0,.int .i64 a0_1] 31 (0,0)) (by (with_reducible repeat (first|refine blk_drewN ?_ _|refine blk_drew ?_|refine blk_alloc ?_ _));exact BK137.out) hb);have n1_:=aK (below_step (by repeat (first|(with_reducible first|exact HB.out|apply below_alloc|apply pw_below_drewN|apply below_drew1|refine below_set ?_ GE137.out)|exact HB.out)) hb);have n2_:=aK (hbox);have n3_:=aK ((by rw [hg];exact (below_size (by repeat (first|(with_reducible first|exact HB.out|apply below_alloc|apply pw_below_drewN|apply below_drew1|refine below_set ?_ GE137.out)|exact HB.out))):w.heap.size≤gb138));have n4_:=n3_;have n5_:=aK ((by rw [hg];exact Nat.ne_of_lt (blk_lt (g:=gb137) (o:=.cells #[.int .i64 a0_0,.int .i64 a0_1] 31 (0,0)) (by (with_reducible repeat (first|refine blk_drewN ?_ _|refine blk_drew ?_|refine blk_alloc ?_ _));exact BK137.out)):gb137≠gb138));have n6_:=aK (Ne.symm n5_.out);clear BK137;clear HB;have BK137:=n0_;have HB:=n1_;have BK138:=n2_;have GW138:=n3_;have GE138:=n4_;have NB137_138:=n5_;have NB138_137:=n6_;clear n0_ n1_ n2_ n3_ n4_ n5_ n6_;clear hb hbox hg)|((with_reducible refine gate_dst (N:=4) rfl ?_);refine box_event ?hg (N:=4) ?hd (cs:=#[.int .i64 0,.int .i64 0]) (t:=31) ?hr ?_;(case hd=>rfl);(case hg=>rfl);(case hr=>first|(go_simp;done)|(go_simp;rfl));intro gb139 hg w5 hbox hb;have n0_:=aK (blk_below (g:=gb137) (o:=.cells #[.int .i64 a0_0,.int .i64 a0_1] 31 (0,0)) (by (with_reducible repeat (first|refine blk_drewN ?_ _|refine blk_drew ?_|refine blk_alloc ?_ _));exact BK137.out) hb);have n1_:=aK (blk_below (g:=gb138) (o:=.cells #[.int .i64 a1_0,.int .i64 a1_1] 31 (0,0)) (by (with_reducible repeat (first|refine blk_drewN ?_ _|refine blk_drew ?_|refine blk_alloc ?_ _));exact BK138.out) hb);have n2_:=aK (below_step (by repeat (first|(with_reducible first|exact HB.out|apply below_alloc|apply pw_below_drewN|apply below_drew1|refine below_set ?_ GE137.out|refine below_set ?_ GE138.out)|exact HB.out)) hb);have n3_:=aK (hbox);have n4_:=aK ((by rw [hg];exact (below_size (by repeat (first|(with_reducible first|exact HB.out|apply below_alloc|apply pw_below_drewN|apply below_drew1|refine below_set ?_ GE137.out|refine below_set ?_ GE138.out)|exact HB.out))):w.heap.size≤gb139));have n5_:=n4_;have n6_:=aK ((by rw [hg];exact Nat.ne_of_lt (blk_lt (g:=gb137) (o:=.cells #[.int .i64 a0_0,.int .i64 a0_1] 31 (0,0)) (by (with_reducible repeat (first|refine blk_drewN ?_ _|refine blk_drew ?_|refine blk_alloc ?_ _));exact BK137.out)):gb137≠gb139));have n7_:=aK (Ne.symm n6_.out);have n8_:=aK ((by rw [hg];exact Nat.ne_of_lt (blk_lt (g:=gb138) (o:=.cells #[.int .i64 a1_0,.int .i64 a1_1] 31 (0,0)) (by (with_reducible repeat (first|refine blk_drewN ?_ _|refine blk_drew ?_|refine blk_alloc ?_ _));exact BK138.out)):gb138≠gb139));have n9_:=aK (Ne.symm n8_.out);clear BK137;clear BK138;clear HB;have BK137:=n0_;have BK138:=n1_;have HB:=n2_;have BK139:=n3_;have GW139:=n4_;have GE139:=n5_;have NB137_139:=n6_;have NB139_137:=n7_;have NB138_139:=n8_;have NB139_138:=n9_;clear n0_ n1_ n2_ n3_ n4_ n5_ n6_ n7_ n8_ n9_;clear hb hbox hg;have hnb6:=NB137_138.out;have hnc6:=NB138_137.out;have hnb7:=NB137_139.out;have hnc7:=NB139_137.out;have hcz8_0:w5.cell? ⟨gb137,0,none⟩=some (.int .i64 a0_0):=(blk_cell BK137.out 0).trans rfl;have hcz8_1:w5.cell? ⟨gb137,1,none⟩=some (.int .i64 a0_1):=(blk_cell BK137.out 1).trans rfl;have hfz8_0:=blk_frozen BK137.out 0;have hfz8_1:=blk_frozen BK137.out 1;have hnb9:=NB138_139.out;have hnc9:=NB139_138.out;have hcz10_0:w5.cell? ⟨gb138,0,none⟩=some (.int .i64 a1_0):=(blk_cell BK138.out 0).trans rfl;have hcz10_1:w5.cell? ⟨gb138,1,none⟩=some (.int .i64 a1_1):=(blk_cell BK138.out 1).trans rfl;have hfz10_0:=blk_frozen BK138.out 0;have hfz10_1:=blk_frozen BK138.out 1;have hcz11_0:w5.cell? ⟨gb139,0,none⟩=some (.int .i64 0):=(blk_cell BK139.out 0).trans rfl;have hcz11_1:w5.cell? ⟨gb139,1,none⟩=some (.int .i64 0):=(blk_cell BK139.out 1).trans rfl;have hfz11_0:=blk_frozen BK139.out 0;have hfz11_1:=blk_frozen BK139.out 1))
 refine bodyPost_ret (results_cell_row rfl _ _ gb139 31 #[.int .i64 (wrap64 (a0_0+a1_0)),.int .i64 (wrap64 (a0_1+a1_1))] (0,0) _ rfl (by (with_reducible repeat (first|refine blk_drewN ?_ _|refine blk_drew ?_|refine blk_alloc ?_ _));refine blk_put (cs:=#[.int .i64 (wrap64 (a0_0+a1_0)),.int .i64 0]) ?_ 1 _ rfl;(with_reducible repeat (first|refine blk_drewN ?_ _|refine blk_drew ?_|refine blk_alloc ?_ _));refine blk_put (cs:=#[.int .i64 0,.int .i64 0]) ?_ 0 _ rfl;(with_reducible repeat (first|refine blk_drewN ?_ _|refine blk_drew ?_|refine blk_alloc ?_ _));exact BK139.out) Try.underlying31 rfl (by kernel_rfl)) rfl ?_
 exact ⟨by first|rfl|(simp [errW_none,errW_some] <;> rfl)|(simp [*,errW_none,errW_some] <;> rfl),by repeat (first|(with_reducible first|exact HB.out|apply below_alloc|apply pw_below_drewN|apply below_drew1|refine below_set ?_ GE137.out|refine below_set ?_ GE138.out|refine below_set ?_ GE139.out)|exact HB.out)⟩
def pen_at.l0 : Nat → List (S31) → List (S31) → Int → Int → Int → Int → Option ((List (S31)))
 | 0,_,_,_,_,_,_=>none
 | k+1,x5,x11,x12,x13,x141000,x141001=>if x13<x12 then (if 0≤x13 then (if x13<(x11.length:Int) then ((pen_plus.f x141000 x141001 ((rd_T31 x11 x13).f0) ((rd_T31 x11 x13).f1)).bind fun bt146=>(if x13<(x5.length:Int) then (pen_at.l0 k (x5.set (x13:Int).toNat (⟨bt146.1,bt146.2⟩:S31)) x11 x12 (wrap64 (x13+1)) x141000 x141001) else (none))) else (none)) else (none)) else (some x5)
def pen_at.f (k:Nat) (l0:List (S31)) (a1_0:Int) (a1_1:Int):Option ((List (S31))):=if 0≤(l0.length:Int) then (if ((l0.length:Int):Int).toNat≤17592186044416 then (pen_at.l0 k (List.replicate ((l0.length:Int):Int).toNat z31) l0 (l0.length:Int) 0 a1_0 a1_1) else (none)) else (none)
theorem pen_at.mono_l : ∀ k, (∀ y0 y1 y2 y3 y4 y5, LeO (pen_at.l0 k y0 y1 y2 y3 y4 y5) (pen_at.l0 (k + 1) y0 y1 y2 y3 y4 y5))
 | 0=>fun _ _ _ _ _ _ r h=>by simp [pen_at.l0] at h
 | k+1=>by
  have ih0:=pen_at.mono_l k
  ·intro y0 y1 y2 y3 y4 y5
   unfold pen_at.l0
   repeat' first
   | (with_reducible exact ih0 _ _ _ _ _ _)
   | (with_reducible exact LeO.refl _)
   | (with_reducible exact LeO.none _)
   | (with_reducible refine LeO.ite ?_ ?_)
   | (with_reducible refine LeO.bind ?_ (fun _=>?_))
   | exact ih0 _ _ _ _ _ _
   | exact LeO.none _
   | refine LeO.ite ?_ ?_
   | refine LeO.bind ?_ (fun _=>?_)
theorem pen_at.mono : ∀ a0 a1 a2 k,LeO (pen_at.f k a0 a1 a2) (pen_at.f (k+1) a0 a1 a2):=by
 intro a0 a1 a2 k
 have ih0:=pen_at.mono_l k
 unfold pen_at.f
 repeat' first
   | (with_reducible exact ih0 _ _ _ _ _ _)
   | (with_reducible exact LeO.refl _)
   | (with_reducible exact LeO.none _)
   | (with_reducible refine LeO.ite ?_ ?_)
   | (with_reducible refine LeO.bind ?_ (fun _=>?_))
   | exact ih0 _ _ _ _ _ _
   | exact LeO.none _
   | refine LeO.ite ?_ ?_
   | refine LeO.bind ?_ (fun _=>?_)
set_option maxHeartbeats 8000000 in
theorem pen_at.calls (k : Nat) (A0 : Option Addr) (c0 : Nat) (l0 : List (S31)) (a1_0 : Int) (a1_1 : Int) (r : List (S31)) (w : World) (hr0 : Kd.C k31 w A0 l0.length l0) (hc0 : l0.length ≤ c0) (h : pen_at.f k l0 a1_0 a1_1 = some r) :
  Calls Try.prog 61 #[.slice A0 l0.length c0,.agg #[.int .i64 a1_0,.int .i64 a1_1]] w fun e w'=>∃ v0_:Value,e = .returned (v0_)∧Kd.R k31 31 w' w.heap.size (fun _=>True) v0_ r∧Below w.heap.size w w':=by
 have hu31:=Try.underlying31
 have HR0:=aK hr0
 have HC0:=aK hc0
 clear hr0 hc0
 have HB:=aK (Below.refl w.heap.size w)
 have H:(if 0≤(l0.length:Int) then (if ((l0.length:Int):Int).toNat≤17592186044416 then (pen_at.l0 k (List.replicate ((l0.length:Int):Int).toNat z31) l0 (l0.length:Int) 0 a1_0 a1_1) else (none)) else (none))=some r:=h
 clear h
 by_cases c3:0≤(l0.length:Int)
 ·rw [if_pos c3] at H
  have c3b0:=eq_true c3
  have c3b1:decide (0≤(l0.length:Int))=true:=decide_eq_true c3
  clear c3
  by_cases c4:((l0.length:Int):Int).toNat≤17592186044416
  ·rw [if_pos c4] at H
   have c4b0:=eq_true c4
   have c4b1:decide (((l0.length:Int):Int).toNat≤17592186044416)=true:=decide_eq_true c4
   clear c4
   obtain ⟨y141,hy141⟩ : ∃ y_:List (S31),y_=(List.replicate ((l0.length:Int):Int).toNat z31):=⟨_,rfl⟩
   replace H:(pen_at.l0 k y141 l0 (l0.length:Int) 0 a1_0 a1_1)=some r:=by first|(rw [hy141];with_reducible exact H)|(have H2_:=(Option.bind_some _ _).symm.trans H;rw [hy141];with_reducible exact H2_)|(have H2_:=(Option.bind_some _ _).symm.trans H;with_reducible exact H2_)|with_reducible exact H|(rw [hy141];exact H)|exact H
   have Ny141:=aK hy141
   clear hy141
   have H':=aK H
   clear H
   go_enter Try.func61,Try.ntmps61
   go_wp2_with (first|((with_reducible refine gate_dst (N:=3) rfl ?_);refine box_event ?hg (N:=3) ?hd (cs:=#[.int .i64 a1_0,.int .i64 a1_1]) (t:=31) ?hr ?_;(case hd=>rfl);(case hg=>rfl);(case hr=>first|(go_simp;done)|(go_simp;rfl));intro gb140 hg w5 hbox hb;have n0_:=aK (below_step (by repeat (first|(with_reducible first|exact HB.out|apply below_alloc|apply pw_below_drewN|apply below_drew1)|exact HB.out)) hb);have n1_:=aK (hbox);have n2_:=aK ((by rw [hg];exact (below_size (by repeat (first|(with_reducible first|exact HB.out|apply below_alloc|apply pw_below_drewN|apply below_drew1)|exact HB.out))):w.heap.size≤gb140));have n3_:=n2_;clear HB;have HB:=n0_;have BK140:=n1_;have GW140:=n2_;have GE140:=n3_;clear n0_ n1_ n2_ n3_;clear hb hbox hg)|((with_reducible refine gate_dst (N:=10) rfl ?_);refine Kd.R_make k31 _ 31 rfl (N:=10) rfl 32 _ _ rfl (l0.length:Int) rfl rfl Try.underlying32 (.agg #[(.int .i64 0),(.int .i64 0)]) 16 info31 rfl (by decide) (by omega) z31 (ok:=fun _=>True) (okp:=fun _=>True) (k31_mkM _ _ _ z31 ) (fun _ hk=>hk) trivial (of_decide_eq_true (by first|(with_reducible assumption)|assumption)) (Nat.le_trans (Nat.mul_le_mul_right _ (of_decide_eq_true (by first|(with_reducible assumption)|assumption):(l0.length:Int).toNat≤17592186044416)) (by omega)) (Below.refl _ _) (Nat.le_refl _) ?_;intro v142 w6 ho7 hb hg_ hnew_;clear hg_ hnew_;(first|rw [← Ny141.out] at ho7|(simp only [Int.reduceToNat] at ho7;rw [← Ny141.out] at ho7));have n0_:=aK (Kd.R_lower (Kd.R_newB ho7 (g:=gb140) (o:=.cells #[.int .i64 a1_0,.int .i64 a1_1] 31 (0,0)) (by (with_reducible repeat (first|refine blk_drewN ?_ _|refine blk_drew ?_|refine blk_alloc ?_ _));exact BK140.out)) (below_size (by repeat (first|(with_reducible first|exact HB.out|apply below_alloc|apply pw_below_drewN|apply below_drew1|refine below_set ?_ GE140.out)|exact HB.out))));have n1_:=aK (blk_below (g:=gb140) (o:=.cells #[.int .i64 a1_0,.int .i64 a1_1] 31 (0,0)) (by (with_reducible repeat (first|refine blk_drewN ?_ _|refine blk_drew ?_|refine blk_alloc ?_ _));exact BK140.out) hb);have n2_:=aK (below_step (by repeat (first|(with_reducible first|exact HB.out|apply below_alloc|apply pw_below_drewN|apply below_drew1|refine below_set ?_ GE140.out)|exact HB.out)) hb);clear BK140;clear HB;have HO143:=n0_;have BK140:=n1_;have HB:=n2_;clear n0_ n1_ n2_;clear hb ho7))
   go_loopg [13] k (fun kq v13 w'=>∃ (x5_1:List (S31)) (x13_1:Int) (x141000_1:Int) (x141001_1:Int),v13 = .int .i64 x13_1∧Aside0 (pen_at.l0 kq x5_1 l0 (l0.length:Int) x13_1 x141000_1 x141001_1=some r)∧Aside0 (kq≤k)∧Aside0 (Kd.R k31 31 w' w.heap.size (fun k_=>k_≠gb140) v142 x5_1)∧Aside0 (w'.heap[gb140]?=some (.cells #[.int .i64 x141000_1,.int .i64 x141001_1] 31 (0,0)))∧Aside0 (Below w.heap.size w w'))
   case atStart=>exact ⟨(y141),(0),(a1_0),(a1_1),(by first|rfl|(simp;done)|(simp [*];done)),H',⟨Nat.le_refl _⟩,⟨by (with_reducible repeat (first|apply Kd.R_alloc|apply Kd.R_drewN|apply Kd.R_drew));exact Kd.R_mono HO143.out (fun _ hk=>hk.2)⟩,⟨by (with_reducible repeat (first|refine blk_drewN ?_ _|refine blk_drew ?_|refine blk_alloc ?_ _));exact BK140.out⟩,⟨by repeat (first|(with_reducible first|exact HB.out|apply below_alloc|apply pw_below_drewN|apply below_drew1|refine below_set ?_ GE140.out)|exact HB.out)⟩⟩
   case round =>
    clear H'
    try clear p2
    try clear c3
    try clear c3b0
    try clear c3b1
    try clear c4
    try clear c4b0
    try clear c4b1
    try clear c6
    obtain ⟨x5_1,x13_1,x141000_1,x141001_1,rfl,HA,HK1,HO_5,BK140,HB⟩:=hrel
    cases gk with
    | zero=>exact absurd HA.out (by simp [pen_at.l0])
    | succ k1 =>
     have H:=HA.out
     clear HA
     simp only [pen_at.l0] at H
     by_cases c8:x13_1<(l0.length:Int)
     ·rw [if_pos c8] at H
      have c8b0:decide (x13_1<(l0.length:Int))=true:=decide_eq_true c8
      clear c8
      by_cases c9:0≤x13_1
      ·rw [if_pos c9] at H
       have c9b0:decide (0≤x13_1)=true:=decide_eq_true c9
       clear c9
       by_cases c10:x13_1<(l0.length:Int)
       ·rw [if_pos c10] at H
        have c10b0:decide (x13_1<(l0.length:Int))=true:=decide_eq_true c10
        clear c10
        replace H:=Option.bind_eq_some_iff.mp H
        obtain ⟨⟨t146,t147⟩,A110,H⟩:=H
        replace H:(if x13_1<(x5_1.length:Int) then (pen_at.l0 k1 (x5_1.set (x13_1:Int).toNat (⟨t146,t147⟩:S31)) l0 (l0.length:Int) (wrap64 (x13_1+1)) x141000_1 x141001_1) else (none))=some r:=H
        have A11:=aK A110
        clear A110
        by_cases c12:x13_1<(x5_1.length:Int)
        ·rw [if_pos c12] at H
         have c12b0:decide (x13_1<(x5_1.length:Int))=true:=decide_eq_true c12
         clear c12
         obtain ⟨y148,hy148⟩ : ∃ y_:List (S31),y_=(x5_1.set (x13_1:Int).toNat (⟨t146,t147⟩:S31)):=⟨_,rfl⟩
         replace H:(pen_at.l0 k1 y148 l0 (l0.length:Int) (wrap64 (x13_1+1)) x141000_1 x141001_1)=some r:=by first|(rw [hy148];with_reducible exact H)|(have H2_:=(Option.bind_some _ _).symm.trans H;rw [hy148];with_reducible exact H2_)|(have H2_:=(Option.bind_some _ _).symm.trans H;with_reducible exact H2_)|with_reducible exact H|(rw [hy148];exact H)|exact H
         have Ny148:=aK hy148
         clear hy148
         have H':=aK H
         clear H
         have p144:0≤(x13_1:Int):=of_decide_eq_true (by first|(with_reducible assumption)|assumption)
         have q144:x13_1<(l0.length:Int):=of_decide_eq_true (by first|(with_reducible assumption)|assumption)
         obtain ⟨ad144,e144,hx144_0,hx144_1⟩:=at_T31 HR0.out x13_1 p144 q144
         cases e144
         replace hx144_0:=(HB.out.cell (World.block_lt_of_cell? w _ hx144_0)).trans hx144_0
         replace hx144_1:=(HB.out.cell (World.block_lt_of_cell? w _ hx144_1)).trans hx144_1
         replace p144:=eq_true p144
         replace q144:=eq_true q144
         go_wp2_with (first|((with_reducible refine gate_dst (N:=7) rfl ?_);refine box_event ?hg (N:=7) ?hd (cs:=#[.int .i64 0,.int .i64 0]) (t:=31) ?hr ?_;(case hd=>rfl);(case hg=>rfl);(case hr=>first|(go_simp;done)|(go_simp;rfl));intro gb145 hg w14 hbox hb;have n0_:=aK (Kd.R_below (Kd.R_elderB (by (with_reducible repeat (first|apply Kd.R_alloc|apply Kd.R_drewN|apply Kd.R_drew));exact HO_5.out) gb145 (Nat.le_of_eq hg.symm)) hb);have n1_:=aK (blk_below (g:=gb140) (o:=.cells #[.int .i64 x141000_1,.int .i64 x141001_1] 31 (0,0)) (by (with_reducible repeat (first|refine blk_drewN ?_ _|refine blk_drew ?_|refine blk_alloc ?_ _));exact BK140.out) hb);have n2_:=aK (below_step (by repeat (first|(with_reducible first|exact HB.out|apply below_alloc|apply pw_below_drewN|apply below_drew1|refine below_set ?_ GE140.out)|exact HB.out)) hb);have n3_:=aK (hbox);have n4_:=aK ((by rw [hg];exact (below_size (by repeat (first|(with_reducible first|exact HB.out|apply below_alloc|apply pw_below_drewN|apply below_drew1|refine below_set ?_ GE140.out)|exact HB.out))):w.heap.size≤gb145));have n5_:=n4_;have n6_:=aK ((by rw [hg];exact Nat.ne_of_lt (blk_lt (g:=gb140) (o:=.cells #[.int .i64 x141000_1,.int .i64 x141001_1] 31 (0,0)) (by (with_reducible repeat (first|refine blk_drewN ?_ _|refine blk_drew ?_|refine blk_alloc ?_ _));exact BK140.out)):gb140≠gb145));have n7_:=aK (Ne.symm n6_.out);clear HO_5;clear BK140;clear HB;have HO_5:=n0_;have BK140:=n1_;have HB:=n2_;have BK145:=n3_;have GW145:=n4_;have GE145:=n5_;have NB140_145:=n6_;have NB145_140:=n7_;clear n0_ n1_ n2_ n3_ n4_ n5_ n6_ n7_;clear hb hbox hg;have hnb15:=NB145_140.out;have hnc15:=NB140_145.out;have hcz16_0:w14.cell? ⟨gb145,0,none⟩=some (.int .i64 0):=(blk_cell BK145.out 0).trans rfl;have hcz16_1:w14.cell? ⟨gb145,1,none⟩=some (.int .i64 0):=(blk_cell BK145.out 1).trans rfl;have hfz16_0:=blk_frozen BK145.out 0;have hfz16_1:=blk_frozen BK145.out 1;have hcz17_0:w14.cell? ⟨gb140,0,none⟩=some (.int .i64 x141000_1):=(blk_cell BK140.out 0).trans rfl;have hcz17_1:w14.cell? ⟨gb140,1,none⟩=some (.int .i64 x141001_1):=(blk_cell BK140.out 1).trans rfl;have hfz17_0:=blk_frozen BK140.out 0;have hfz17_1:=blk_frozen BK140.out 1)|((with_reducible refine gate_callee (f:=82) rfl ?_);refine goesL_ (some 22) rfl rfl Try.func82 (by kernel_rfl) rfl #[.agg #[.int .i64 x141000_1,.int .i64 x141001_1],.agg #[.int .i64 ((rd_T31 l0 x13_1).f0),.int .i64 ((rd_T31 l0 x13_1).f1)]] rfl (by (try simp only [List.map_toArray,List.map_cons,List.map_nil]);first|done|rfl|(simp only [List.length_drop,List.length_take];rfl)) ?_;(with_reducible refine (pen_plus.calls x141000_1 x141001_1 ((rd_T31 l0 x13_1).f0) ((rd_T31 l0 x13_1).f1) t146 t147 _ A11.out).mono ?_);rintro e w18 ⟨rfl,hb⟩;refine ⟨_,rfl,?_⟩;have n0_:=aK (Kd.R_below (by (with_reducible repeat (first|apply Kd.R_alloc|apply Kd.R_drewN|apply Kd.R_drew));exact (Kd.R_mono (Kd.R_far (p:=⟨gb145,1,none⟩) (Kd.R_far (p:=⟨gb145,0,none⟩) (Kd.R_mono HO_5.out (fun k_ hk=>(⟨hk,hk.2⟩:_∧k_≠gb145))) (fun _ hk=>hk.2) (.int .i64 ((rd_T31 l0 x13_1).f0))) (fun _ hk=>hk.2) (.int .i64 ((rd_T31 l0 x13_1).f1))) (fun _ h_=>h_.1))) hb);have n1_:=aK (blk_below (g:=gb140) (o:=.cells #[.int .i64 x141000_1,.int .i64 x141001_1] 31 (0,0)) (by (with_reducible repeat (first|refine blk_drewN ?_ _|refine blk_drew ?_|refine blk_alloc ?_ _));refine blk_far ?_ NB140_145.out _;(with_reducible repeat (first|refine blk_drewN ?_ _|refine blk_drew ?_|refine blk_alloc ?_ _));refine blk_far ?_ NB140_145.out _;(with_reducible repeat (first|refine blk_drewN ?_ _|refine blk_drew ?_|refine blk_alloc ?_ _));exact BK140.out) hb);have n2_:=aK (blk_below (g:=gb145) (o:=.cells #[.int .i64 ((rd_T31 l0 x13_1).f0),.int .i64 ((rd_T31 l0 x13_1).f1)] 31 (0,0)) (by (with_reducible repeat (first|refine blk_drewN ?_ _|refine blk_drew ?_|refine blk_alloc ?_ _));refine blk_put (cs:=#[.int .i64 ((rd_T31 l0 x13_1).f0),.int .i64 0]) ?_ 1 _ rfl;(with_reducible repeat (first|refine blk_drewN ?_ _|refine blk_drew ?_|refine blk_alloc ?_ _));refine blk_put (cs:=#[.int .i64 0,.int .i64 0]) ?_ 0 _ rfl;(with_reducible repeat (first|refine blk_drewN ?_ _|refine blk_drew ?_|refine blk_alloc ?_ _));exact BK145.out) hb);have n3_:=aK (below_step (by repeat (first|(with_reducible first|exact HB.out|apply below_alloc|apply pw_below_drewN|apply below_drew1|refine below_set ?_ GE140.out|refine below_set ?_ GE145.out)|exact HB.out)) hb);clear HO_5;clear BK140;clear BK145;clear HB;have HO_5:=n0_;have BK140:=n1_;have BK145:=n2_;have HB:=n3_;clear n0_ n1_ n2_ n3_;(try clear hb);(try clear hb2);(try clear hk);(try clear hi);have p13:0≤(x13_1:Int):=of_decide_eq_true (by first|(with_reducible assumption)|assumption);have q13:(x13_1:Int)<((x5_1.length:Int):Int):=of_decide_eq_true (by first|(with_reducible assumption)|assumption);obtain ⟨go13,co13,eo13,gb13,gl13,cl13,HG13⟩:=Kd.R_form HO_5.out (by omega);(first|cases eo13|(injection eo13 with ea_ en_ ec_;(first|subst ea_|(injection ea_ with ea_;subst ea_));subst ec_;clear en_));have GB13:=aK gb13;have GG13:=aK HG13;clear gb13 gl13 HG13;obtain ⟨ce13,hcl13,hM13,hcc13,hfr13⟩:=Kd.R_elem HO_5.out z31 (x13_1:Int) p13 q13;obtain rfl:=k31_openM hM13;have hx13_0:w18.cell? ⟨go13,(x13_1:Int).toNat*2,none⟩=some (.int .i64 ((rd_T31 x5_1 x13_1).f0)):=hcc13 0 _ rfl;have hx13_1:w18.cell? ⟨go13,(x13_1:Int).toNat*2+1,none⟩=some (.int .i64 ((rd_T31 x5_1 x13_1).f1)):=hcc13 1 _ rfl;have hf13_0:w18.frozen? ⟨go13,(x13_1:Int).toNat*2,none⟩=false:=hfr13 0;have hf13_1:w18.frozen? ⟨go13,(x13_1:Int).toNat*2+1,none⟩=false:=hfr13 1;clear hcl13 hcc13 hfr13 hM13;replace p13:=eq_true p13;replace q13:=eq_true q13;have HX19:=aK (show Kd.R k31 31 w18 w.heap.size (fun k_=>k_≠gb140∧k_≠gb145) (.slice (some ⟨go13,0,none⟩) x5_1.length co13) x5_1 from (by (with_reducible repeat (first|apply Kd.R_alloc|apply Kd.R_drewN|apply Kd.R_drew));exact HO_5.out));obtain ⟨ce19,hcl19,hM19,hcc19,hfr19⟩:=Kd.R_elem HX19.out z31 (x13_1:Int) (of_decide_eq_true (by first|(with_reducible assumption)|assumption)) (by have h_:(x13_1:Int)<((x5_1.length:Int):Int):=of_decide_eq_true (by first|(with_reducible assumption)|assumption);first|exact h_|(have e_:=(Kd.R_reads' HO_5.out).1;omega)|simpa using h_);obtain rfl:=k31_openM hM19;have HP19:=Kd.R_seg HX19.out (x13_1:Int) (of_decide_eq_true (by first|(with_reducible assumption)|assumption)) (by have h_:(x13_1:Int)<((x5_1.length:Int):Int):=of_decide_eq_true (by first|(with_reducible assumption)|assumption);first|exact h_|(have e_:=(Kd.R_reads' HO_5.out).1;omega)|simpa using h_) (seg:=[.int .i64 t146,.int .i64 t147]) (j:=0) hcl19 hcc19 (show 2≤2 from by decide) (x':=(⟨t146,t147⟩:S31)) (k31_mkM _ _ _ (⟨t146,t147⟩:S31) ) (fun _ hk=>hk);have hx19_0:=hcc19 0 _ rfl;(try simp only [show (k31).sz=2 from rfl,Nat.mul_one,Nat.add_zero] at hx19_0);have hf19_0:=hfr19 0;(try simp only [show (k31).sz=2 from rfl,Nat.mul_one,Nat.add_zero] at hf19_0);have hx19_1:=hcc19 1 _ rfl;(try simp only [show (k31).sz=2 from rfl,Nat.mul_one,Nat.add_zero] at hx19_1);have hf19_1:=hfr19 1;(try simp only [show (k31).sz=2 from rfl,Nat.mul_one,Nat.add_zero] at hf19_1);clear hcl19 hcc19 hfr19 hM19)|((with_reducible refine gate_store (t:=31) (p:=23) rfl ?_);refine store_event (t:=31) (p:=23) (v:=?vo_w20) (w1:=((w18.setCell ⟨go13,(x13_1:Int).toNat*2,none⟩ (.int .i64 t146)).setCell ⟨go13,(x13_1:Int).toNat*2+1,none⟩ (.int .i64 t147))) ?hg ?ho ?hn ?hr ?_;(case ho=>rfl);(case hg=>rfl);(case hn=>rfl);(case hr=>first|(go_simp;done)|(go_simp;rfl));intro w20 hw;have hg:w18.grownBy w20 (some go13):=(by rw [hw];exact HP19.2);have hp_:Kd.R k31 31 w20 w.heap.size (fun k_=>k_≠gb140∧k_≠gb145) (.slice (some ⟨go13,0,none⟩) x5_1.length co13) y148:=(by rw [hw,Ny148.out];exact HP19.1);clear HP19;have n0_:=aK (hp_);have n1_:=aK (blk_grown (g:=gb140) (o:=.cells #[.int .i64 x141000_1,.int .i64 x141001_1] 31 (0,0)) (by (with_reducible repeat (first|refine blk_drewN ?_ _|refine blk_drew ?_|refine blk_alloc ?_ _));exact BK140.out) hg (Kd.R_away HO_5.out (fun _ hk=>hk.1)));have n2_:=aK (blk_grown (g:=gb145) (o:=.cells #[.int .i64 ((rd_T31 l0 x13_1).f0),.int .i64 ((rd_T31 l0 x13_1).f1)] 31 (0,0)) (by (with_reducible repeat (first|refine blk_drewN ?_ _|refine blk_drew ?_|refine blk_alloc ?_ _));exact BK145.out) hg (Kd.R_away HO_5.out (fun _ hk=>hk.2)));have n3_:=aK ((by rw [hw];exact below_set (below_set (HB.out) GB13.out) GB13.out:Below w.heap.size w w20));clear HO_5;clear BK140;clear BK145;clear HB;have HO_5:=n0_;have BK140:=n1_;have BK145:=n2_;have HB:=n3_;clear n0_ n1_ n2_ n3_;clear hg hw hp_))
         go_roundg k1
         case measure=>have:=HK1.out;omega
         case rel=>exact ⟨(y148),(wrap64 (x13_1+1)),(x141000_1),(x141001_1),(by first|rfl|(simp;done)|(simp [*];done)),H',⟨by have:=HK1.out;omega⟩,⟨by (with_reducible repeat (first|apply Kd.R_alloc|apply Kd.R_drewN|apply Kd.R_drew));exact Kd.R_mono HO_5.out (fun _ hk=>hk.1)⟩,⟨by (with_reducible repeat (first|refine blk_drewN ?_ _|refine blk_drew ?_|refine blk_alloc ?_ _));exact BK140.out⟩,⟨by repeat (first|(with_reducible first|exact HB.out|apply below_alloc|apply pw_below_drewN|apply below_drew1|refine below_set ?_ GE140.out|refine below_set ?_ GE145.out)|exact HB.out)⟩⟩
        ·rw [if_neg c12] at H
         exact absurd H (by simp)
       ·rw [if_neg c10] at H
        exact absurd H (by simp)
      ·rw [if_neg c9] at H
       exact absurd H (by simp)
     ·rw [if_neg c8] at H
      have c8b0:decide (x13_1<(l0.length:Int))=false:=decide_eq_false c8
      clear c8
      obtain rfl:=Option.some.inj H
      go_wp2
      go_ret
      exact ⟨_,by first|rfl|(simp [errW_none,errW_some] <;> rfl)|(simp [*,errW_none,errW_some] <;> rfl),by (with_reducible repeat (first|apply Kd.R_alloc|apply Kd.R_drewN|apply Kd.R_drew));exact Kd.R_mono HO_5.out (fun _ hk=>trivial),by repeat (first|(with_reducible first|exact HB.out|apply below_alloc|apply pw_below_drewN|apply below_drew1|refine below_set ?_ GE140.out)|exact HB.out)⟩
  ·rw [if_neg c4] at H
   exact absurd H (by simp)
 ·rw [if_neg c3] at H
  exact absurd H (by simp)
def pen_Swept.f (k:Nat) (l0:List (S31)) (a1_0:Int) (a1_1:Int) (a2_0:Int) (a2_1:Int):Option ((List (S31))):=(pen_at.f k l0 a1_0 a1_1).bind fun t151=>((pen_at.f k l0 a2_0 a2_1).bind fun t154=>(if t151.length+t154.length<8796093022208 then ((pen_hull.f (t151++t154)).bind fun t160=>(some t160)) else (none)))
theorem pen_Swept.mono : ∀ a0 a1 a2 a3 a4 k,LeO (pen_Swept.f k a0 a1 a2 a3 a4) (pen_Swept.f (k+1) a0 a1 a2 a3 a4):=by
 intro a0 a1 a2 a3 a4 k
 unfold pen_Swept.f
 repeat' first
   | (with_reducible exact pen_at.mono _ _ _ _)
   | (with_reducible exact LeO.refl _)
   | (with_reducible exact LeO.none _)
   | (with_reducible refine LeO.ite ?_ ?_)
   | (with_reducible refine LeO.bind ?_ (fun _=>?_))
   | exact pen_at.mono _ _ _ _
   | exact LeO.none _
   | refine LeO.ite ?_ ?_
   | refine LeO.bind ?_ (fun _=>?_)
def pen_Swept.T1:Bool×List (List Nat×List Nat):=(true,[([],[]),([],[]),([0,1],[0,1]),([],[]),([],[]),([3,4,2],[3,4]),([2,5,5],[2,5]),([6,6],[6]),([7,7,0,1,2,3,4,5,6,7],[7])])
def pen_Swept.B1:List Nat:=[0,0,3,0,0,31,63,127,255]
theorem pen_Swept.tab1:rtab .any (opsOf Try.f46 1)=pen_Swept.T1:=by kernel_rfl
theorem pen_Swept.bits1:waitsOk pen_Swept.T1.2 pen_Swept.B1=true:=by kernel_rfl
set_option maxHeartbeats 8000000 in
theorem pen_Swept.calls (k : Nat) (A0 : Option Addr) (c0 : Nat) (l0 : List (S31)) (a1_0 : Int) (a1_1 : Int) (a2_0 : Int) (a2_1 : Int) (r : List (S31)) (w : World) (hr0 : Kd.C k31 w A0 l0.length l0) (hc0 : l0.length ≤ c0) (h : pen_Swept.f k l0 a1_0 a1_1 a2_0 a2_1 = some r) :
  Calls Try.prog 46 #[.slice A0 l0.length c0,.agg #[.int .i64 a1_0,.int .i64 a1_1],.agg #[.int .i64 a2_0,.int .i64 a2_1]] w fun e w'=>∃ v0_:Value,e = .returned (v0_)∧Kd.R k31 31 w' w.heap.size (fun _=>True) v0_ r∧Below w.heap.size w w':=by
 have hu31:=Try.underlying31
 have HR0:=aK hr0
 have HC0:=aK hc0
 clear hr0 hc0
 have HB:=aK (Below.refl w.heap.size w)
 have H:((pen_at.f k l0 a1_0 a1_1).bind fun t151=>((pen_at.f k l0 a2_0 a2_1).bind fun t154=>(if t151.length+t154.length<8796093022208 then ((pen_hull.f (t151++t154)).bind fun t160=>(some t160)) else (none))))=some r:=h
 clear h
 replace H:=Option.bind_eq_some_iff.mp H
 obtain ⟨t151,A40,H⟩:=H
 replace H:((pen_at.f k l0 a2_0 a2_1).bind fun t154=>(if t151.length+t154.length<8796093022208 then ((pen_hull.f (t151++t154)).bind fun t160=>(some t160)) else (none)))=some r:=H
 have A4:=aK A40
 clear A40
 replace H:=Option.bind_eq_some_iff.mp H
 obtain ⟨t154,A50,H⟩:=H
 replace H:(if t151.length+t154.length<8796093022208 then ((pen_hull.f (t151++t154)).bind fun t160=>(some t160)) else (none))=some r:=H
 have A5:=aK A50
 clear A50
 by_cases c6:t151.length+t154.length<8796093022208
 ·rw [if_pos c6] at H
  have LMc6:=aK c6
  clear c6
  obtain ⟨y157,hy157⟩ : ∃ y_:List (S31),y_=(t151++t154):=⟨_,rfl⟩
  replace H:((pen_hull.f y157).bind fun t160=>(some t160))=some r:=by first|(rw [hy157];with_reducible exact H)|(have H2_:=(Option.bind_some _ _).symm.trans H;rw [hy157];with_reducible exact H2_)|(have H2_:=(Option.bind_some _ _).symm.trans H;with_reducible exact H2_)|with_reducible exact H|(rw [hy157];exact H)|exact H
  have Ny157:=aK hy157
  clear hy157
  replace H:=Option.bind_eq_some_iff.mp H
  obtain ⟨t160,A70,H⟩:=H
  replace H:(some t160)=some r:=H
  have A7:=aK A70
  clear A70
  obtain rfl:=Option.some.inj H
  go_enter Try.func46,Try.ntmps46
  try go_wp2_with (first|((with_reducible refine gate_dst (N:=4) rfl ?_);refine box_event ?hg (N:=4) ?hd (cs:=#[.int .i64 a1_0,.int .i64 a1_1]) (t:=31) ?hr ?_;(case hd=>rfl);(case hg=>rfl);(case hr=>first|(go_simp;done)|(go_simp;rfl));intro gb149 hg w8 hbox hb;have n0_:=aK (below_step (by repeat (first|(with_reducible first|exact HB.out|apply below_alloc|apply pw_below_drewN|apply below_drew1)|exact HB.out)) hb);have n1_:=aK (hbox);have n2_:=aK ((by rw [hg];exact (below_size (by repeat (first|(with_reducible first|exact HB.out|apply below_alloc|apply pw_below_drewN|apply below_drew1)|exact HB.out))):w.heap.size≤gb149));have n3_:=n2_;clear HB;have HB:=n0_;have BK149:=n1_;have GW149:=n2_;have GE149:=n3_;clear n0_ n1_ n2_ n3_;clear hb hbox hg)|((with_reducible refine gate_dst (N:=5) rfl ?_);refine box_event ?hg (N:=5) ?hd (cs:=#[.int .i64 a2_0,.int .i64 a2_1]) (t:=31) ?hr ?_;(case hd=>rfl);(case hg=>rfl);(case hr=>first|(go_simp;done)|(go_simp;rfl));intro gb150 hg w9 hbox hb;have n0_:=aK (blk_below (g:=gb149) (o:=.cells #[.int .i64 a1_0,.int .i64 a1_1] 31 (0,0)) (by (with_reducible repeat (first|refine blk_drewN ?_ _|refine blk_drew ?_|refine blk_alloc ?_ _));exact BK149.out) hb);have n1_:=aK (below_step (by repeat (first|(with_reducible first|exact HB.out|apply below_alloc|apply pw_below_drewN|apply below_drew1|refine below_set ?_ GE149.out)|exact HB.out)) hb);have n2_:=aK (hbox);have n3_:=aK ((by rw [hg];exact (below_size (by repeat (first|(with_reducible first|exact HB.out|apply below_alloc|apply pw_below_drewN|apply below_drew1|refine below_set ?_ GE149.out)|exact HB.out))):w.heap.size≤gb150));have n4_:=n3_;have n5_:=aK ((by rw [hg];exact Nat.ne_of_lt (blk_lt (g:=gb149) (o:=.cells #[.int .i64 a1_0,.int .i64 a1_1] 31 (0,0)) (by (with_reducible repeat (first|refine blk_drewN ?_ _|refine blk_drew ?_|refine blk_alloc ?_ _));exact BK149.out)):gb149≠gb150));have n6_:=aK (Ne.symm n5_.out);clear BK149;clear HB;have BK149:=n0_;have HB:=n1_;have BK150:=n2_;have GW150:=n3_;have GE150:=n4_;have NB149_150:=n5_;have NB150_149:=n6_;clear n0_ n1_ n2_ n3_ n4_ n5_ n6_;clear hb hbox hg))
  have n0_:=aK (blk_drew BK149.out)
  have n1_:=aK (blk_drew BK150.out)
  have n2_:=aK (below_drew1 HB.out)
  clear BK149
  clear BK150
  clear HB
  have BK149:=n0_
  have BK150:=n1_
  have HB:=n2_
  clear n0_ n1_ n2_
  refine start_ (n:=9) (S:=fun w'=>w'.cell? ⟨gb149,0,none⟩=some (.int .i64 a1_0)∧w'.cell? ⟨gb149,1,none⟩=some (.int .i64 a1_1)∧w'.cell? ⟨gb150,0,none⟩=some (.int .i64 a2_0)∧w'.cell? ⟨gb150,1,none⟩=some (.int .i64 a2_1)) (ds:=[]) #[false,false,false,false,false,false,false,false,false] (by kernel_rfl) rfl rfl ⟨(blk_cell BK149.out 0).trans rfl,(blk_cell BK149.out 1).trans rfl,(blk_cell BK150.out 0).trans rfl,(blk_cell BK150.out 1).trans rfl⟩ (fun hHeld=>?_);refine with_tabW pen_Swept.tab1 pen_Swept.bits1 (fun HT_ HW_=>?_)
  generalize w9.drew=w10 at BK149 BK150 HB hHeld ⊢
  refine pure_ (i:=0) (N:=some 7) (v:=?_) (a':=?_) #[true,false,false,false,false,false,false,false,false] rfl rfl (any_of HT_.out (by kernel_rfl)) (fun _ _ _ h=>h) (Or.inl ⟨by rfl,?_⟩) ?_ ?_
  rotate_left
  ·intro w'
   go_simp
   with_reducible rfl
  rotate_left
  ·simp only [Act.put,lS,i64_w,i32_w]
   rfl
  refine pure_ (i:=3) (N:=some 10) (v:=?_) (a':=?_) #[true,false,false,true,false,false,false,false,false] rfl rfl (any_of HT_.out (by kernel_rfl)) (fun _ _ _ h=>h) (Or.inl ⟨by rfl,?_⟩) ?_ ?_
  rotate_left
  ·intro w'
   go_simp
   with_reducible rfl
  rotate_left
  ·simp only [Act.put,lS,i64_w,i32_w]
   rfl
  refine take_ (i:=1) (N:=some 8) (v:=?_) (a':=?_) #[true,true,false,true,false,false,false,false,false] rfl rfl (take_ofW HT_.out HW_.out (by kernel_rfl)) (fun _ _ _ h=>h) (Or.inl ⟨by rfl,?_⟩) hHeld ?_ ?_
  rotate_left
  ·rintro w' ⟨s0,s1,s2,s3⟩
   go_simp
   with_reducible rfl
  rotate_left
  ·simp only [Act.put,lS,i64_w,i32_w]
   rfl
  refine take_ (i:=4) (N:=some 11) (v:=?_) (a':=?_) #[true,true,false,true,true,false,false,false,false] rfl rfl (take_ofW HT_.out HW_.out (by kernel_rfl)) (fun _ _ _ h=>h) (Or.inl ⟨by rfl,?_⟩) hHeld ?_ ?_
  rotate_left
  ·rintro w' ⟨s0,s1,s2,s3⟩
   go_simp
   with_reducible rfl
  rotate_left
  ·simp only [Act.put,lS,i64_w,i32_w]
   rfl
  refine one_ (i:=2) (N:=some 9) #[true,true,true,true,true,false,false,false,false] rfl rfl (one_of HT_.out (by kernel_rfl)) (by decide) (fun K hK=>?_)
  refine goes_ Try.func61 (by kernel_rfl) rfl #[.slice A0 l0.length c0,.agg #[.int .i64 a1_0,.int .i64 a1_1]] (by rfl) rfl rfl (by (try simp only [List.map_toArray,List.map_cons,List.map_nil]);first|done|rfl|(simp only [List.length_drop,List.length_take];rfl)) ?_
  with_reducible refine (pen_at.calls k _ _ l0 a1_0 a1_1 t151 _ ?side1 ?side2 A4.out).mono ?_
  (case side1=>repeat (first|exact (Kd.C_below HR0.out HB.out)|(with_reducible refine Kd.C_alloc ?_ _)|(with_reducible refine Kd.C_drewN ?_ _)|(with_reducible refine Kd.C_drew ?_)))
  (case side2=>exact HC0.out)
  rintro e w11 ⟨v152,rfl,ho0,hb⟩
  refine ⟨_,rfl,?_⟩
  have n0_:=aK (Kd.R_lower (Kd.R_newB (Kd.R_newB ho0 (g:=gb149) (o:=.cells #[.int .i64 a1_0,.int .i64 a1_1] 31 (0,0)) (by (with_reducible repeat (first|refine blk_drewN ?_ _|refine blk_drew ?_|refine blk_alloc ?_ _));exact BK149.out)) (g:=gb150) (o:=.cells #[.int .i64 a2_0,.int .i64 a2_1] 31 (0,0)) (by (with_reducible repeat (first|refine blk_drewN ?_ _|refine blk_drew ?_|refine blk_alloc ?_ _));exact BK150.out)) (below_size (by repeat (first|(with_reducible first|exact HB.out|apply below_alloc|apply pw_below_drewN|apply below_drew1|refine below_set ?_ GE149.out|refine below_set ?_ GE150.out)|exact HB.out))))
  have n1_:=aK (blk_below (g:=gb149) (o:=.cells #[.int .i64 a1_0,.int .i64 a1_1] 31 (0,0)) (by (with_reducible repeat (first|refine blk_drewN ?_ _|refine blk_drew ?_|refine blk_alloc ?_ _));exact BK149.out) hb)
  have n2_:=aK (blk_below (g:=gb150) (o:=.cells #[.int .i64 a2_0,.int .i64 a2_1] 31 (0,0)) (by (with_reducible repeat (first|refine blk_drewN ?_ _|refine blk_drew ?_|refine blk_alloc ?_ _));exact BK150.out) hb)
  have n3_:=aK (below_step (by repeat (first|(with_reducible first|exact HB.out|apply below_alloc|apply pw_below_drewN|apply below_drew1|refine below_set ?_ GE149.out|refine below_set ?_ GE150.out)|exact HB.out)) hb)
  clear BK149
  clear BK150
  clear HB
  have HO153:=n0_
  have BK149:=n1_
  have BK150:=n2_
  have HB:=n3_
  clear n0_ n1_ n2_ n3_
  (try clear hb)
  (try clear hb2)
  (try clear hk)
  (try clear hi)
  (try clear ho0)
  refine hK.out _ _ ⟨(blk_cell BK149.out 0).trans rfl,(blk_cell BK149.out 1).trans rfl,(blk_cell BK150.out 0).trans rfl,(blk_cell BK150.out 1).trans rfl⟩ (fun hHeld=>?_)
  clear hK K
  refine norm_ (a':=?_) ?_ ?_
  rotate_left
  ·show Act.put _ (some 9) _=_
   simp only [Act.put,lS,i64_w,i32_w]
   rfl
  refine one_ (i:=5) (N:=some 12) #[true,true,true,true,true,true,false,false,false] rfl rfl (one_of HT_.out (by kernel_rfl)) (by decide) (fun K hK=>?_)
  refine goes_ Try.func61 (by kernel_rfl) rfl #[.slice A0 l0.length c0,.agg #[.int .i64 a2_0,.int .i64 a2_1]] (by rfl) rfl rfl (by (try simp only [List.map_toArray,List.map_cons,List.map_nil]);first|done|rfl|(simp only [List.length_drop,List.length_take];rfl)) ?_
  with_reducible refine (pen_at.calls k _ _ l0 a2_0 a2_1 t154 _ ?side1 ?side2 A5.out).mono ?_
  (case side1=>repeat (first|exact (Kd.C_below HR0.out HB.out)|(with_reducible refine Kd.C_alloc ?_ _)|(with_reducible refine Kd.C_drewN ?_ _)|(with_reducible refine Kd.C_drew ?_)))
  (case side2=>exact HC0.out)
  rintro e w12 ⟨v155,rfl,ho0,hb⟩
  refine ⟨_,rfl,?_⟩
  have n0_:=aK (Kd.R_elder' (by (with_reducible repeat (first|apply Kd.R_alloc|apply Kd.R_drewN|apply Kd.R_drew));exact HO153.out) (Kd.R_base ho0) hb)
  have n1_:=aK (Kd.R_lower (Kd.R_newB (Kd.R_newB (Kd.R_new' ho0 (Kd.R_lt (by (with_reducible repeat (first|apply Kd.R_alloc|apply Kd.R_drewN|apply Kd.R_drew));exact HO153.out))) (g:=gb149) (o:=.cells #[.int .i64 a1_0,.int .i64 a1_1] 31 (0,0)) (by (with_reducible repeat (first|refine blk_drewN ?_ _|refine blk_drew ?_|refine blk_alloc ?_ _));exact BK149.out)) (g:=gb150) (o:=.cells #[.int .i64 a2_0,.int .i64 a2_1] 31 (0,0)) (by (with_reducible repeat (first|refine blk_drewN ?_ _|refine blk_drew ?_|refine blk_alloc ?_ _));exact BK150.out)) (below_size (by repeat (first|(with_reducible first|exact HB.out|apply below_alloc|apply pw_below_drewN|apply below_drew1|refine below_set ?_ GE149.out|refine below_set ?_ GE150.out)|exact HB.out))))
  have n2_:=aK (blk_below (g:=gb149) (o:=.cells #[.int .i64 a1_0,.int .i64 a1_1] 31 (0,0)) (by (with_reducible repeat (first|refine blk_drewN ?_ _|refine blk_drew ?_|refine blk_alloc ?_ _));exact BK149.out) hb)
  have n3_:=aK (blk_below (g:=gb150) (o:=.cells #[.int .i64 a2_0,.int .i64 a2_1] 31 (0,0)) (by (with_reducible repeat (first|refine blk_drewN ?_ _|refine blk_drew ?_|refine blk_alloc ?_ _));exact BK150.out) hb)
  have n4_:=aK (below_step (by repeat (first|(with_reducible first|exact HB.out|apply below_alloc|apply pw_below_drewN|apply below_drew1|refine below_set ?_ GE149.out|refine below_set ?_ GE150.out)|exact HB.out)) hb)
  clear HO153
  clear BK149
  clear BK150
  clear HB
  have HO153:=n0_
  have HO156:=n1_
  have BK149:=n2_
  have BK150:=n3_
  have HB:=n4_
  clear n0_ n1_ n2_ n3_ n4_
  (try clear hb)
  (try clear hb2)
  (try clear hk)
  (try clear hi)
  (try clear ho0)
  obtain ⟨Ao14,co14,eo14⟩:=Kd.R_slice HO156.out
  (first|subst eo14|(injection eo14 with f1_ f2_ f3_;have f4_:=f1_.symm;have f5_:=f3_.symm;clear f1_ f2_ f3_;subst f4_;subst f5_))
  refine hK.out _ _ ⟨(blk_cell BK149.out 0).trans rfl,(blk_cell BK149.out 1).trans rfl,(blk_cell BK150.out 0).trans rfl,(blk_cell BK150.out 1).trans rfl⟩ (fun hHeld=>?_)
  clear hK K
  refine norm_ (a':=?_) ?_ ?_
  rotate_left
  ·show Act.put _ (some 12) _=_
   simp only [Act.put,lS,i64_w,i32_w]
   rfl
  refine one_ (i:=6) (N:=some 13) #[true,true,true,true,true,true,true,false,false] rfl rfl (one_of HT_.out (by kernel_rfl)) (by decide) (fun K hK=>?_)
  refine Kd.R_append_rows_step k31 (w0:=w) w.heap.size (by rfl) (.tmp 9) (.tmp 12) 32 31 (.agg #[(.int .i64 0),(.int .i64 0)]) 16 rfl Try.underlying32 info31 rfl (by decide) (by omega) v152 t151 t154 _ _ _ (fun k_=>some k_≠(.slice Ao14 t154.length co14:Value).ownBlock∧k_≠gb149∧k_≠gb150) (fun _=>False) rfl rfl ?aO ?aR (fun _ _ h=>h) (fun _ h=>h.elim) ?aF ?aB ?aS ?aL ?_
  (case aR=>repeat (first|exact (Kd.R_reads' HO156.out).2.2|(with_reducible refine Kd.C_alloc ?_ _)|(with_reducible refine Kd.C_drewN ?_ _)|(with_reducible refine Kd.C_drew ?_)))
  (case aB=>exact (by repeat (first|(with_reducible first|exact HB.out|apply below_alloc|apply pw_below_drewN|apply below_drew1|refine below_set ?_ GE149.out|refine below_set ?_ GE150.out)|exact HB.out)))
  (case aF=>exact (fun k_ hk=>⟨Kd.fresh' (Kd.R_lt (by (with_reducible repeat (first|apply Kd.R_alloc|apply Kd.R_drewN|apply Kd.R_drew));exact HO156.out)) k_ hk,Kd.freshB (g:=gb149) (o:=.cells #[.int .i64 a1_0,.int .i64 a1_1] 31 (0,0)) (by (with_reducible repeat (first|refine blk_drewN ?_ _|refine blk_drew ?_|refine blk_alloc ?_ _));exact BK149.out) k_ hk,Kd.freshB (g:=gb150) (o:=.cells #[.int .i64 a2_0,.int .i64 a2_1] 31 (0,0)) (by (with_reducible repeat (first|refine blk_drewN ?_ _|refine blk_drew ?_|refine blk_alloc ?_ _));exact BK150.out) k_ hk⟩))
  (case aO=>exact (by (with_reducible repeat (first|apply Kd.R_alloc|apply Kd.R_drewN|apply Kd.R_drew));exact Kd.R_mono HO153.out (fun _ hk=>⟨hk.2,⟨hk.1.1.2,hk.1.2⟩⟩)))
  (case aS=>exact (below_size (by repeat (first|(with_reducible first|exact HB.out|apply below_alloc|apply pw_below_drewN|apply below_drew1|refine below_set ?_ GE149.out|refine below_set ?_ GE150.out)|exact HB.out))))
  (case aL=>have:=LMc6.out;omega)
  intro v158 w13 ho hb hg hat
  rw [← Ny157.out] at ho
  have n0_:=aK (blk_grown (g:=gb149) (o:=.cells #[.int .i64 a1_0,.int .i64 a1_1] 31 (0,0)) (by (with_reducible repeat (first|refine blk_drewN ?_ _|refine blk_drew ?_|refine blk_alloc ?_ _));exact BK149.out) hg (Kd.R_away HO153.out (fun _ hk=>hk.1.1.2)))
  have n1_:=aK (blk_grown (g:=gb150) (o:=.cells #[.int .i64 a2_0,.int .i64 a2_1] 31 (0,0)) (by (with_reducible repeat (first|refine blk_drewN ?_ _|refine blk_drew ?_|refine blk_alloc ?_ _));exact BK150.out) hg (Kd.R_away HO153.out (fun _ hk=>hk.1.2)))
  have n2_:=aK (Kd.R_after (ok:=(fun k_=>k_≠gb149∧k_≠gb150)) (by (with_reducible repeat (first|apply Kd.R_alloc|apply Kd.R_drewN|apply Kd.R_drew));exact Kd.R_mono HO156.out (fun _ hk=>⟨⟨hk.1.2,hk.2⟩,hk.1.1.2⟩)) hg hat)
  have n3_:=aK (hb)
  have n4_:=aK (ho)
  clear BK149
  clear BK150
  clear HO156
  clear HB
  clear HO153
  have BK149:=n0_
  have BK150:=n1_
  have HO156:=n2_
  have HB:=n3_
  have HO159:=n4_
  clear n0_ n1_ n2_ n3_ n4_
  clear ho hb hg hat
  obtain ⟨Ao15,co15,eo15⟩:=Kd.R_slice HO159.out
  (first|subst eo15|(injection eo15 with f1_ f2_ f3_;have f4_:=f1_.symm;have f5_:=f3_.symm;clear f1_ f2_ f3_;subst f4_;subst f5_))
  refine hK.out _ _ ⟨(blk_cell BK149.out 0).trans rfl,(blk_cell BK149.out 1).trans rfl,(blk_cell BK150.out 0).trans rfl,(blk_cell BK150.out 1).trans rfl⟩ (fun hHeld=>?_)
  clear hK K
  refine norm_ (a':=?_) ?_ ?_
  rotate_left
  ·show Act.put _ (some 13) _=_
   simp only [Act.put,lS,i64_w,i32_w]
   rfl
  refine one_ (i:=7) (N:=some 14) #[true,true,true,true,true,true,true,true,false] rfl rfl (one_of HT_.out (by kernel_rfl)) (by decide) (fun K hK=>?_)
  refine goes_ Try.func60 (by kernel_rfl) rfl #[.slice Ao15 y157.length co15] (by rfl) rfl rfl (by (try simp only [List.map_toArray,List.map_cons,List.map_nil]);first|done|rfl|(simp only [List.length_drop,List.length_take];rfl)) ?_
  with_reducible refine (pen_hull.calls _ _ y157 t160 _ ?side1 ?side2 A7.out).mono ?_
  (case side1=>repeat (first|exact (Kd.R_reads' HO159.out).2.2|(with_reducible refine Kd.C_alloc ?_ _)|(with_reducible refine Kd.C_drewN ?_ _)|(with_reducible refine Kd.C_drew ?_)))
  (case side2=>exact (Kd.R_reads' HO159.out).2.1)
  rintro e w16 ⟨v161,rfl,ho0,hb⟩
  refine ⟨_,rfl,?_⟩
  have n0_:=aK (Kd.R_elder' (by (with_reducible repeat (first|apply Kd.R_alloc|apply Kd.R_drewN|apply Kd.R_drew));exact HO156.out) (Kd.R_base ho0) hb)
  have n1_:=aK (Kd.R_elder' (by (with_reducible repeat (first|apply Kd.R_alloc|apply Kd.R_drewN|apply Kd.R_drew));exact HO159.out) (Kd.R_base ho0) hb)
  have n2_:=aK (Kd.R_lower (Kd.R_newB (Kd.R_newB (Kd.R_new' (Kd.R_new' ho0 (Kd.R_lt (by (with_reducible repeat (first|apply Kd.R_alloc|apply Kd.R_drewN|apply Kd.R_drew));exact HO156.out))) (Kd.R_lt (by (with_reducible repeat (first|apply Kd.R_alloc|apply Kd.R_drewN|apply Kd.R_drew));exact HO159.out))) (g:=gb149) (o:=.cells #[.int .i64 a1_0,.int .i64 a1_1] 31 (0,0)) (by (with_reducible repeat (first|refine blk_drewN ?_ _|refine blk_drew ?_|refine blk_alloc ?_ _));exact BK149.out)) (g:=gb150) (o:=.cells #[.int .i64 a2_0,.int .i64 a2_1] 31 (0,0)) (by (with_reducible repeat (first|refine blk_drewN ?_ _|refine blk_drew ?_|refine blk_alloc ?_ _));exact BK150.out)) (below_size (by repeat (first|(with_reducible first|exact HB.out|apply below_alloc|apply pw_below_drewN|apply below_drew1|refine below_set ?_ GE149.out|refine below_set ?_ GE150.out)|exact HB.out))))
  have n3_:=aK (blk_below (g:=gb149) (o:=.cells #[.int .i64 a1_0,.int .i64 a1_1] 31 (0,0)) (by (with_reducible repeat (first|refine blk_drewN ?_ _|refine blk_drew ?_|refine blk_alloc ?_ _));exact BK149.out) hb)
  have n4_:=aK (blk_below (g:=gb150) (o:=.cells #[.int .i64 a2_0,.int .i64 a2_1] 31 (0,0)) (by (with_reducible repeat (first|refine blk_drewN ?_ _|refine blk_drew ?_|refine blk_alloc ?_ _));exact BK150.out) hb)
  have n5_:=aK (below_step (by repeat (first|(with_reducible first|exact HB.out|apply below_alloc|apply pw_below_drewN|apply below_drew1|refine below_set ?_ GE149.out|refine below_set ?_ GE150.out)|exact HB.out)) hb)
  clear HO156
  clear HO159
  clear BK149
  clear BK150
  clear HB
  have HO156:=n0_
  have HO159:=n1_
  have HO162:=n2_
  have BK149:=n3_
  have BK150:=n4_
  have HB:=n5_
  clear n0_ n1_ n2_ n3_ n4_ n5_
  (try clear hb)
  (try clear hb2)
  (try clear hk)
  (try clear hi)
  (try clear ho0)
  refine hK.out _ _ ⟨(blk_cell BK149.out 0).trans rfl,(blk_cell BK149.out 1).trans rfl,(blk_cell BK150.out 0).trans rfl,(blk_cell BK150.out 1).trans rfl⟩ (fun hHeld=>?_)
  clear hK K
  refine norm_ (a':=?_) ?_ ?_
  rotate_left
  ·show Act.put _ (some 14) _=_
   simp only [Act.put,lS,i64_w,i32_w]
   rfl
  refine pure_ (i:=8) (N:=some 6) (v:=?_) (a':=?_) #[true,true,true,true,true,true,true,true,true] rfl rfl (any_of HT_.out (by kernel_rfl)) (fun _ _ _ h=>h) (Or.inl ⟨by rfl,?_⟩) ?_ ?_
  rotate_left
  ·intro w'
   go_simp
   with_reducible rfl
  rotate_left
  ·simp only [Act.put,lS,i64_w,i32_w]
   rfl
  refine done_ (done_of HT_.out (by kernel_rfl)) ?_
  try go_wp2
  go_ret
  exact ⟨_,by first|rfl|(simp [errW_none,errW_some] <;> rfl)|(simp [*,errW_none,errW_some] <;> rfl),by (with_reducible repeat (first|apply Kd.R_alloc|apply Kd.R_drewN|apply Kd.R_drew));exact Kd.R_mono HO162.out (fun _ hk=>trivial),by repeat (first|(with_reducible first|exact HB.out|apply below_alloc|apply pw_below_drewN|apply below_drew1|refine below_set ?_ GE149.out|refine below_set ?_ GE150.out)|exact HB.out)⟩
 ·rw [if_neg c6] at H
  exact absurd H (by simp)
def hasAt (l : List S31) (s : S31) : Nat → Bool
 | 0=>true
 | i+1=>hasAt l s i && decide (0≤signV (rd_T31 l (i:Int)) (nxt l i) s)
theorem grown_set {W W1:World} (hb:Below W.heap.size W W1) (n:Nat) (g:Nat) (j:Nat) (u:Value):W.grownBy ((W1.drewN n).setCell ⟨g,j,none⟩ u) (some g) :=
 ⟨hb.os,hb.tape,hb.output,by have:=hb.size;simpa [World.setCell] using this,fun k hk hne=>(Below.heap_setCell (W1.drewN n) ⟨g,j,none⟩ u k (fun e=>hne (by rw [e]))).trans (hb.block k hk)⟩
set_option maxHeartbeats 4000000 in
theorem has1_calls (a b s : S31) (v : Bool) (bk bs : Nat) (W : World) (h1 : W.heap[bs]? = some (.cells #[.int .i64 s.f0, .int .i64 s.f1] 31 (0, 0))) (h2 : W.heap[bk]? = some (.cells #[.bool v] 4 (0, 0))) :
  Calls Try.prog 76 #[edgeV a b,.pointer (some ⟨bk,0,none⟩),.pointer (some ⟨bs,0,none⟩)] W fun e w' =>
   e = .returned (.tuple #[])∧W.grownBy w' (some bk)∧w'.heap[bk]?=some (.cells #[.bool (v && decide (0≤signV a b s))] 4 (0,0)):=by
 have hu:=Try.underlying31
 have hu2:=Try.underlying51
 have hs:=fun V=>wind_Sign.calls a.f0 a.f1 b.f0 b.f1 s.f0 s.f1 _ V (sign_some a b s)
 generalize signV a b s=sg at *
 have HS:=aK hs
 have hB:=below_alloc (Below.refl W.heap.size W) (.cells #[.int .i64 a.f0,.int .i64 a.f1,.int .i64 b.f0,.int .i64 b.f1] 51)
 have K1:=blk_alloc h1 (.cells #[.int .i64 a.f0,.int .i64 a.f1,.int .i64 b.f0,.int .i64 b.f1] 51)
 have K2:=blk_alloc h2 (.cells #[.int .i64 a.f0,.int .i64 a.f1,.int .i64 b.f0,.int .i64 b.f1] 51)
 have a0:=(blk_cell K2 0).trans rfl
 have a1:=(blk_cell K1 0).trans rfl
 have a2:=(blk_cell K1 1).trans rfl
 have a3:=blk_frozen K2 0
 have HB:=aK hB
 have K2:=aK K2
 clear hs hB K1 h1 h2
 unfold edgeV
 cases v with
 | false =>
  go_enter Try.func76,Try.ntmps76
  go_wp2
  go_end0
  exact ⟨rfl,grown_set HB.out 0 bk 0 _,one_setCell K2.out⟩
 | true =>
  go_enter Try.func76,Try.ntmps76
  go_wp2_with fail
  refine (HS.out _).mono ?_
  rintro e W1 ⟨rfl,hb1⟩
  have K3:=blk_below K2.out hb1
  have HB1:=aK (below_step HB.out hb1)
  have a4:=(blk_cell K3 0).trans rfl
  have a5:=blk_frozen K3 0
  have K3:=aK K3
  clear hb1 a0 a1 a2 a3 HS HB K2
  cases hg:decide (0≤sg) with
  | true =>
   go_wp2
   go_end0
   exact ⟨rfl,grown_set HB1.out 0 bk 0 _,by rw [hg];exact one_setCell K3.out⟩
  | false =>
   go_wp2
   go_end0
   exact ⟨rfl,grown_set HB1.out 0 bk 0 _,by rw [hg];exact one_setCell K3.out⟩
def HasI (w:World) (l0:List S31) (s:S31) (bk bs:Nat) (i:Nat) (W:World):Prop :=
 Below w.heap.size w W∧W.heap[bs]?=some (.cells #[.int .i64 s.f0,.int .i64 s.f1] 31 (0,0))∧W.heap[bk]?=some (.cells #[.bool (hasAt l0 s i)] 4 (0,0))∧w.heap.size≤bk∧bs≠bk
def outB (b:Int×Int×Int×Int) (s0 s1:Int):Bool:=decide (s0<b.1) || (decide (b.2.2.1<s0) || (decide (s1<b.2.1) || decide (b.2.2.2<s1)))
def pen_Has.f (l0:List S31) (a1_0 a1_1:Int):Option Bool:=if 1≤l0.length∧l0.length≤1000000000 then some (!outB (bndAt l0 l0.length) a1_0 a1_1 && hasAt l0 ⟨a1_0,a1_1⟩ l0.length) else none
set_option maxHeartbeats 4000000 in
theorem pen_Has.calls (A0 : Option Addr) (c0 : Nat) (l0 : List S31) (a1_0 a1_1 : Int) (r : Bool) (w : World) (hr0 : Kd.C k31 w A0 l0.length l0) (hc0 : l0.length ≤ c0) (h : pen_Has.f l0 a1_0 a1_1 = some r) :
  Calls Try.prog 59 #[.slice A0 l0.length c0,.agg #[.int .i64 a1_0,.int .i64 a1_1]] w fun e w'=>e = .returned (.bool r)∧Below w.heap.size w w':=by
 have hu:=Try.underlying31
 have hu2:=Try.underlying72
 unfold pen_Has.f at h
 by_cases hl:1≤l0.length∧l0.length≤1000000000
 case neg=>rw [if_neg hl] at h;exact absurd h (by simp)
 rw [if_pos hl] at h
 have HRES:=aK (Option.some.inj h)
 have HL:=aK hl
 have HR:=aK hr0
 have HC:=aK hc0
 have HB:=aK (below_alloc (Below.refl w.heap.size w) (.cells #[.int .i64 a1_0,.int .i64 a1_1] 31))
 have BS:=aK (blk_new w (.cells #[.int .i64 a1_0,.int .i64 a1_1] 31))
 have hbd : ∀ V,Kd.C k31 V A0 l0.length l0→Calls Try.prog 44 #[.slice A0 l0.length c0] V fun e w'=>e = .returned (.agg #[.int .i64 (bndAt l0 l0.length).1,.int .i64 (bndAt l0 l0.length).2.1,.int .i64 (bndAt l0 l0.length).2.2.1,.int .i64 (bndAt l0 l0.length).2.2.2])∧Below V.heap.size V w':=fun V hV=>bounds_calls A0 c0 l0 _ V hV hc0 (by unfold flat_Bounds.f;rw [if_pos hl])
 have HBD:=aK hbd
 generalize bndAt l0 l0.length=b at *
 obtain ⟨b0,b1,b2,b3⟩:=b
 simp only [outB] at HRES HBD
 clear h hl hr0 hc0 hbd
 go_enter Try.func59,Try.ntmps59
 go_wp2_with fail
 refine (HBD.out _ (Kd.C_below HR.out HB.out)).mono ?_
 rintro e W1 ⟨rfl,hb1⟩
 have B1:=aK (below_step HB.out hb1)
 have K1:=blk_below BS.out hb1
 have V0:=blk_alloc K1 (.cells #[.int .i64 b0,.int .i64 b1,.int .i64 b2,.int .i64 b3] 72)
 have p0:=(blk_cell V0 0).trans rfl
 have p1:=(blk_cell V0 1).trans rfl
 have V0:=aK V0
 have KS:=aK K1
 clear hb1 HBD HB BS K1
 cases t1:decide (a1_0<b0) with
 | true =>
  obtain rfl:false=r:=by have:=HRES.out;rw [t1] at this;simpa using this
  go_wp2
  go_ret
  exact ⟨rfl,below_alloc B1.out _⟩
 | false =>
  cases t2:decide (b2<a1_0) with
  | true =>
   obtain rfl:false=r:=by have:=HRES.out;rw [t1,t2] at this;simpa using this
   go_wp2
   go_ret
   exact ⟨rfl,below_alloc B1.out _⟩
  | false =>
   cases t3:decide (a1_1<b1) with
   | true =>
    obtain rfl:false=r:=by have:=HRES.out;rw [t1,t2,t3] at this;simpa using this
    go_wp2
    go_ret
    exact ⟨rfl,below_alloc B1.out _⟩
   | false =>
    cases t4:decide (b3<a1_1) with
    | true =>
     obtain rfl:false=r:=by have:=HRES.out;rw [t1,t2,t3,t4] at this;simpa using this
     go_wp2
     go_ret
     exact ⟨rfl,below_alloc B1.out _⟩
    | false =>
     have hres:hasAt l0 ⟨a1_0,a1_1⟩ l0.length=r:=by have:=HRES.out;rw [t1,t2,t3,t4] at this;simpa using this
     have HRES2:=aK hres
     clear HRES hres
     have hs1:=blk_lt KS.out
     have hE := Edges_calls 76 #[.pointer (some ⟨W1.heap.size + 1, 0, none⟩), .pointer (some ⟨w.heap.size, 0, none⟩)]
      (HasI w l0 ⟨a1_0,a1_1⟩ (W1.heap.size+1) w.heap.size) (enters_own Try.func76 (by kernel_rfl) rfl) A0 c0 l0 w ((W1.alloc (.cells #[.int .i64 b0,.int .i64 b1,.int .i64 b2,.int .i64 b3] 72)).alloc (.cells #[.bool true] 4))
      (fun i W hi ⟨k0,k1,k2,k3,k4⟩=>by
       refine (has1_calls (rd_T31 l0 (i:Int)) (nxt l0 i) ⟨a1_0,a1_1⟩ (hasAt l0 ⟨a1_0,a1_1⟩ i) _ _ W k1 k2).mono ?_
       rintro e w' ⟨rfl,hg,hk⟩
       exact ⟨rfl,k0.grown hg k0.size (fun k hk'=>by injection hk' with hk';omega),blk_grown k1 hg (by simp;omega),hk,k3,k4⟩)
      (fun i W h=>h.1) (fun i W o h=>⟨below_alloc h.1 o,blk_alloc h.2.1 o,blk_alloc h.2.2.1 o,h.2.2.2⟩) (fun i W n h=>⟨pw_below_drewN h.1 n,blk_drewN h.2.1 n,blk_drewN h.2.2.1 n,h.2.2.2⟩)
      ⟨below_alloc (below_alloc B1.out _) _,blk_alloc (blk_alloc KS.out _) _,by have h:=blk_new (W1.alloc (.cells #[.int .i64 b0,.int .i64 b1,.int .i64 b2,.int .i64 b3] 72)) (.cells #[.bool true] 4);simp only [World.size_alloc] at h;exact h,by omega,by omega⟩ HR.out HL.out.2
     have HE:=aK hE
     clear hE hs1
     go_wp2_with fail
     refine HE.out.mono ?_
     rintro e W6 ⟨rfl,k0,k1,k2,k3,k4⟩
     have K0:=aK k0
     rw [HRES2.out] at k2
     have c6:=(blk_cell k2 0).trans rfl
     clear HE k0 k1 k2 k3 k4
     go_wp2
     go_ret
     exact ⟨rfl,K0.out⟩
set_option maxHeartbeats 2000000 in
theorem ContainsFunc_pts (g : Nat) (lb : Array Value) (p : S31 → Bool) (eg : ∀ args w, (callFunc g args).run Try.prog w = .ok (.enter g args) w) (A0 : Option Addr) (c0 : Nat) (l0 : List S31) (w : World)
  (hp : ∀ (W:World) (x:S31),Below w.heap.size w W→Calls Try.prog g (#[.agg #[.int .i64 x.f0,.int .i64 x.f1]]++lb) W fun e w'=>e = .returned (.bool (p x))∧Below w.heap.size w w')
  (hr0:Kd.C k31 w A0 l0.length l0) (hlen:l0.length≤9223372036854775807) :
  Calls Try.prog 54 #[.slice A0 l0.length c0,.func (.func g) #[] lb] w fun e w'=>e = .returned (.bool (l0.any p))∧Below w.heap.size w w':=by
 have hc:=IndexFunc_pts g lb p eg A0 c0 l0 w hp hr0 hlen
 have HA:=aK (idxFrom_nonneg p l0 0 (by omega))
 clear hp hr0
 generalize idxFrom p l0 0=n at *
 go_enter Try.func54,Try.ntmps54
 go_wp2_with fail
 refine hc.mono ?_
 clear hc
 rintro e w' ⟨rfl,hb'⟩
 go_wp2
 go_ret
 exact ⟨by rw [← HA.out];rfl,hb'⟩
def isPt (x:S31):Bool:=decide (-268435455≤x.f0) && decide (x.f0≤268435455) && (decide (-268435455≤x.f1) && decide (x.f1≤268435455))
def flat_ArePoints.f (l0:List S31):Option Bool:=if l0.length≤9223372036854775807 then some (l0.all isPt) else none
theorem isPoint_is (x:S31):flat_IsPoint.f x.f0 x.f1=some (isPt x):=by
 unfold flat_IsPoint.f flat_IsCoord.f isPt
 by_cases h1:x.f0≥-268435455
 ·rw [if_pos h1]
  by_cases h2:x.f0≤268435455
  ·rw [show decide (x.f0≤268435455)=true from decide_eq_true h2,show decide (-268435455≤x.f0)=true from decide_eq_true h1]
   simp only [Option.bind_some,if_true]
   by_cases h3:x.f1≥-268435455
   ·rw [if_pos h3,show decide (-268435455≤x.f1)=true from decide_eq_true h3];simp
   ·rw [if_neg h3,show decide (-268435455≤x.f1)=false from decide_eq_false h3];simp
  ·rw [show decide (x.f0≤268435455)=false from decide_eq_false h2];simp
 ·rw [if_neg h1,show decide (-268435455≤x.f0)=false from decide_eq_false h1];simp
set_option maxHeartbeats 2000000 in
theorem notPoint_calls (x:S31) (w:World):Calls Try.prog 55 #[.agg #[.int .i64 x.f0,.int .i64 x.f1]] w fun e w'=>e = .returned (.bool (!isPt x))∧Below w.heap.size w w':=by
 have hu:=Try.underlying31
 have hc:=fun W=>flat_IsPoint.calls x.f0 x.f1 (isPt x) W (isPoint_is x)
 have HB:=aK (below_alloc (Below.refl w.heap.size w) (.cells #[.int .i64 x.f0,.int .i64 x.f1] 31))
 generalize isPt x=b at *
 go_enter Try.func55,Try.ntmps55
 go_wp2_with fail
 refine (hc _).mono ?_
 rintro e w' ⟨rfl,hb'⟩
 have HB2:=aK (below_step HB.out hb')
 clear hb' hc
 go_wp2
 go_ret
 exact ⟨rfl,HB2.out⟩
set_option maxHeartbeats 2000000 in
theorem flat_ArePoints.calls (A0 : Option Addr) (c0 : Nat) (l0 : List S31) (r : Bool) (w : World) (hr0 : Kd.C k31 w A0 l0.length l0) (hc0 : l0.length ≤ c0) (h : flat_ArePoints.f l0 = some r) :
  Calls Try.prog 40 #[.slice A0 l0.length c0] w fun e w'=>e = .returned (.bool r)∧Below w.heap.size w w':=by
 unfold flat_ArePoints.f at h
 by_cases hl:l0.length≤9223372036854775807
 ·rw [if_pos hl] at h
  injection h with h
  have hc := ContainsFunc_pts 55 #[] (fun x => !isPt x) (enters_own Try.func55 (by kernel_rfl) rfl) A0 c0 l0 w
   (fun W x hb=>(notPoint_calls x W).mono fun e w' ⟨he,hb'⟩=>⟨he,below_step hb hb'⟩) hr0 hl
  have hr:l0.any (fun x=>!isPt x) = !r:=by
   rw [← h,List.any_eq_not_all_not];simp
  rw [hr] at hc
  clear hr h hr0
  go_enter Try.func40,Try.ntmps40
  go_wp2_with fail
  refine hc.mono ?_
  clear hc
  rintro e w' ⟨rfl,hb'⟩
  go_wp2
  go_ret
  exact ⟨by simp,hb'⟩
 ·rw [if_neg hl] at h
  exact absurd h (by simp)
def wind_valid.f (l0:List (S31)):Option (Bool):=if (l0.length:Int)≥1 then (if (l0.length:Int)≤60000 then ((flat_ArePoints.f l0).bind fun t163=>(some t163)) else (some false)) else (some false)
set_option maxHeartbeats 8000000 in
theorem wind_valid.calls (A0 : Option Addr) (c0 : Nat) (l0 : List (S31)) (r : Bool) (w : World) (hr0 : Kd.C k31 w A0 l0.length l0) (hc0 : l0.length ≤ c0) (h : wind_valid.f l0 = some r) :
  Calls Try.prog 32 #[.slice A0 l0.length c0] w fun e w'=>e = .returned (.bool r)∧Below w.heap.size w w':=by
 have HR0:=aK hr0
 have HC0:=aK hc0
 clear hr0 hc0
 have HB:=aK (Below.refl w.heap.size w)
 have H:(if (l0.length:Int)≥1 then (if (l0.length:Int)≤60000 then ((flat_ArePoints.f l0).bind fun t163=>(some t163)) else (some false)) else (some false))=some r:=h
 clear h
 by_cases c2:(l0.length:Int)≥1
 ·rw [if_pos c2] at H
  have c2b0:decide (1≤(l0.length:Int))=true:=decide_eq_true c2
  have c2b1:decide (1≤l0.length)=true:=decide_eq_true (by omega)
  clear c2
  by_cases c3:(l0.length:Int)≤60000
  ·rw [if_pos c3] at H
   have c3b0:decide ((l0.length:Int)≤60000)=true:=decide_eq_true c3
   have c3b1:decide (l0.length≤60000)=true:=decide_eq_true (by omega)
   clear c3
   replace H:=Option.bind_eq_some_iff.mp H
   obtain ⟨t163,A40,H⟩:=H
   replace H:(some t163)=some r:=H
   have A4:=aK A40
   clear A40
   obtain rfl:=Option.some.inj H
   go_enter Try.func32,Try.ntmps32
   go_wp2_with (go_at_call 40;(with_reducible refine (flat_ArePoints.calls _ _ l0 t163 _ ?side1 ?side2 A4.out).mono ?_);(case side1=>repeat (first|exact HR0.out|(with_reducible refine Kd.C_alloc ?_ _)|(with_reducible refine Kd.C_drewN ?_ _)|(with_reducible refine Kd.C_drew ?_)));(case side2=>exact HC0.out);rintro e w5 ⟨rfl,hb⟩;have n0_:=aK (below_step (by repeat (first|(with_reducible first|exact HB.out|apply below_alloc|apply pw_below_drewN|apply below_drew1)|exact HB.out)) hb);clear HB;have HB:=n0_;clear n0_;(try clear hb);(try clear hb2);(try clear hk);(try clear hi))
   go_ret
   exact ⟨by first|rfl|(simp [errW_none,errW_some] <;> rfl)|(simp [*,errW_none,errW_some] <;> rfl),by repeat (first|(with_reducible first|exact HB.out|apply below_alloc|apply pw_below_drewN|apply below_drew1)|exact HB.out)⟩
  ·rw [if_neg c3] at H
   have c3b0:decide ((l0.length:Int)≤60000)=false:=decide_eq_false c3
   have c3b1:decide (l0.length≤60000)=false:=decide_eq_false (by omega)
   clear c3
   obtain rfl:=Option.some.inj H
   go_enter Try.func32,Try.ntmps32
   go_wp2
   go_ret
   exact ⟨by first|rfl|(simp [errW_none,errW_some] <;> rfl)|(simp [*,errW_none,errW_some] <;> rfl),by repeat (first|(with_reducible first|exact HB.out|apply below_alloc|apply pw_below_drewN|apply below_drew1)|exact HB.out)⟩
 ·rw [if_neg c2] at H
  have c2b0:decide (1≤(l0.length:Int))=false:=decide_eq_false c2
  have c2b1:decide (1≤l0.length)=false:=decide_eq_false (by omega)
  clear c2
  obtain rfl:=Option.some.inj H
  go_enter Try.func32,Try.ntmps32
  go_wp2
  go_ret
  exact ⟨by first|rfl|(simp [errW_none,errW_some] <;> rfl)|(simp [*,errW_none,errW_some] <;> rfl),by repeat (first|(with_reducible first|exact HB.out|apply below_alloc|apply pw_below_drewN|apply below_drew1)|exact HB.out)⟩
end Go.Proofs.Ytckjlckhjcbddaa.PH3
