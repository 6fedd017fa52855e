import Derived.Test.YtckjlckhjcbddaaGreatPG3x0
import Derived.Test.YtckjlckhjcbddaaGreatPG3x4
import Derived.Test.YtckjlckhjcbddaaGreatPG3x6
import Derived.Test.YtckjlckhjcbddaaGreatPG3x7
set_option maxRecDepth 100000
namespace Go.Proofs.YtckjlckhjcbddaaGreat.PG3
open Go.RowKit Go.Proofs.YtckjlckhjcbddaaGreatW.PrintWords Go.Proofs.YtckjlckhjcbddaaGreatW.PrintLast Go.Proofs.YtckjlckhjcbddaaGreatW.PrintMore
attribute [local go_sem] max2_int min2_int max_two min_two max_three min_three max_four min_four
private theorem run_ix92_0 (w:World) (a b c d:Value):(Instr.index 92 (.agg #[a,b,c,d]) (.int .i64 0)).run Tryz.prog w = .ok (.agg #[a,b]) w:=by
 simp [Instr.index,go_sem,Tryz.isAgg47,Tryz.sizeOf47]
private theorem run_ix92_1 (w:World) (a b c d:Value):(Instr.index 92 (.agg #[a,b,c,d]) (.int .i64 1)).run Tryz.prog w = .ok (.agg #[c,d]) w:=by
 simp [Instr.index,go_sem,Tryz.isAgg47,Tryz.sizeOf47]
private theorem run_fd47_0 (w:World) (a b:Value):(Instr.field 47 (.agg #[a,b]) 0).run Tryz.prog w = .ok a w:=by
 simp [Instr.field,go_sem,asAgg,Tryz.isAgg3,Tryz.sizeOf3]
private theorem run_fd47_1 (w:World) (a b:Value):(Instr.field 47 (.agg #[a,b]) 1).run Tryz.prog w = .ok b w:=by
 simp [Instr.field,go_sem,asAgg,Tryz.isAgg3,Tryz.sizeOf3]
attribute [local go_sem high] run_ix92_0 run_ix92_1 run_fd47_0 run_fd47_1
set_option linter.unusedVariables false
set_option linter.unusedSimpArgs false
mutual
def scan_cover.j1:Nat→List (S47)→Int→List Bool→Int→Int→Option (List Bool)
 | 0,_,_,_,_,_=>none
 | k+1,x0,x1,x2,x7,x8=>scan_cover.l1 k x0 x1 x2 x8 x7
def scan_cover.l1:Nat→List (S47)→Int→List Bool→Int→Int→Option (List Bool)
 | 0,_,_,_,_,_=>none
 | k+1,x0,x1,x2,x8,x9=>if x9≤x8 then ((scan_middle.f x9).bind fun t397=>((pen_Has.f x0 t397 x1).bind fun t398=>(if t398=true then (if 0≤x9 then (if x9<(x2.length:Int) then (scan_cover.l1 k x0 x1 (x2.set (x9:Int).toNat true) x8 (wrap64 (x9+1))) else (none)) else (none)) else (some x2)))) else (some x2)
def scan_cover.l0:Nat→List (S47)→Int→List Bool→Int→Int→Option (List Bool)
 | 0,_,_,_,_,_=>none
 | k+1,x0,x1,x2,x7,x8=>if x7≤x8 then ((scan_middle.f x7).bind fun t395=>((pen_Has.f x0 t395 x1).bind fun t396=>(if t396=true then (scan_cover.j1 k x0 x1 x2 x7 x8) else (scan_cover.l0 k x0 x1 x2 (wrap64 (x7+1)) x8)))) else (scan_cover.j1 k x0 x1 x2 x7 x8)
end
def scan_cover.f (k:Nat) (l0:List (S47)) (a1:Int) (l2:List Bool):Option (List Bool):=(flat_Bounds.f l0).bind fun bt388=>((scan_from.f bt388.1).bind fun t393=>((scan_from.f (wrap64 (bt388.2.2.1+1))).bind fun t394=>(scan_cover.l0 k l0 a1 l2 (mx t393 0) (mn (wrap64 (t394-1)) (wrap64 ((l2.length:Int)-1))))))
theorem scan_cover.mono_l : ∀ k,(∀ y0 y1 y2 y3 y4,LeO (scan_cover.j1 k y0 y1 y2 y3 y4) (scan_cover.j1 (k+1) y0 y1 y2 y3 y4))∧(∀ y0 y1 y2 y3 y4,LeO (scan_cover.l1 k y0 y1 y2 y3 y4) (scan_cover.l1 (k+1) y0 y1 y2 y3 y4))∧(∀ y0 y1 y2 y3 y4,LeO (scan_cover.l0 k y0 y1 y2 y3 y4) (scan_cover.l0 (k+1) y0 y1 y2 y3 y4))
 | 0=>⟨fun _ _ _ _ _ r h=>by simp [scan_cover.j1] at h,fun _ _ _ _ _ r h=>by simp [scan_cover.l1] at h,fun _ _ _ _ _ r h=>by simp [scan_cover.l0] at h⟩
 | k+1=>by
  obtain ⟨ih0,ih1,ih2⟩:=scan_cover.mono_l k
  refine ⟨?_,?_,?_⟩
  ·intro y0 y1 y2 y3 y4
   unfold scan_cover.j1
   repeat' first
   | (with_reducible exact ih0 _ _ _ _ _)
   | (with_reducible exact ih1 _ _ _ _ _)
   | (with_reducible exact ih2 _ _ _ _ _)
   | (with_reducible exact LeO.refl _)
   | (with_reducible exact LeO.none _)
   | (with_reducible refine LeO.ite ?_ ?_)
   | (with_reducible refine LeO.bind ?_ (fun _=>?_))
   | exact ih0 _ _ _ _ _
   | exact ih1 _ _ _ _ _
   | exact ih2 _ _ _ _ _
   | exact LeO.none _
   | refine LeO.ite ?_ ?_
   | refine LeO.bind ?_ (fun _=>?_)
  ·intro y0 y1 y2 y3 y4
   unfold scan_cover.l1
   repeat' first
   | (with_reducible exact ih0 _ _ _ _ _)
   | (with_reducible exact ih1 _ _ _ _ _)
   | (with_reducible exact ih2 _ _ _ _ _)
   | (with_reducible exact LeO.refl _)
   | (with_reducible exact LeO.none _)
   | (with_reducible refine LeO.ite ?_ ?_)
   | (with_reducible refine LeO.bind ?_ (fun _=>?_))
   | exact ih0 _ _ _ _ _
   | exact ih1 _ _ _ _ _
   | exact ih2 _ _ _ _ _
   | exact LeO.none _
   | refine LeO.ite ?_ ?_
   | refine LeO.bind ?_ (fun _=>?_)
  ·intro y0 y1 y2 y3 y4
   unfold scan_cover.l0
   repeat' first
   | (with_reducible exact ih0 _ _ _ _ _)
   | (with_reducible exact ih1 _ _ _ _ _)
   | (with_reducible exact ih2 _ _ _ _ _)
   | (with_reducible exact LeO.refl _)
   | (with_reducible exact LeO.none _)
   | (with_reducible refine LeO.ite ?_ ?_)
   | (with_reducible refine LeO.bind ?_ (fun _=>?_))
   | exact ih0 _ _ _ _ _
   | exact ih1 _ _ _ _ _
   | exact ih2 _ _ _ _ _
   | exact LeO.none _
   | refine LeO.ite ?_ ?_
   | refine LeO.bind ?_ (fun _=>?_)
theorem scan_cover.mono : ∀ a0 a1 a2 k,LeO (scan_cover.f k a0 a1 a2) (scan_cover.f (k+1) a0 a1 a2):=by
 intro a0 a1 a2 k
 obtain ⟨ih0,ih1,ih2⟩:=scan_cover.mono_l k
 unfold scan_cover.f
 repeat' first
   | (with_reducible exact ih0 _ _ _ _ _)
   | (with_reducible exact ih1 _ _ _ _ _)
   | (with_reducible exact ih2 _ _ _ _ _)
   | (with_reducible exact LeO.refl _)
   | (with_reducible exact LeO.none _)
   | (with_reducible refine LeO.ite ?_ ?_)
   | (with_reducible refine LeO.bind ?_ (fun _=>?_))
   | exact ih0 _ _ _ _ _
   | exact ih1 _ _ _ _ _
   | exact ih2 _ _ _ _ _
   | exact LeO.none _
   | refine LeO.ite ?_ ?_
   | refine LeO.bind ?_ (fun _=>?_)
set_option maxHeartbeats 8000000 in
theorem scan_cover.calls (k:Nat) (A0:Option Addr) (c0:Nat) (l0:List (S47)) (a1:Int) (P2_:Nat→Prop) (u9000_:Value) (l2:List Bool) (r:List Bool) (w0 w:World) (hB:Below w0.heap.size w0 w) (hr0 : ∀ W_,Kept w W_ (fun k_=>P2_ k_)→Kd.C k47 W_ A0 l0.length l0) (hc0:l0.length≤c0) (ho2:Kd.R Kd.bool 4 w w0.heap.size P2_ u9000_ l2) (h:scan_cover.f k l0 a1 l2=some r) :
  Calls Tryz.prog 82 #[.slice A0 l0.length c0,.int .i64 a1,u9000_] w fun e w'=>e = .returned (.tuple #[])∧Kd.R Kd.bool 4 w' w0.heap.size (fun k_=>(P2_ k_∨w.heap.size≤k_)) u9000_ r∧Below w0.heap.size w0 w'∧Kept w w' (fun k_=>P2_ k_):=by
 obtain ⟨Ao13,co13,rfl⟩:=Kd.R_slice ho2
 have hu92:=Tryz.underlying92
 have hu47:=Tryz.underlying47
 have HR0:=aK hr0
 have HC0:=aK hc0
 clear hr0 hc0
 have HO2:=aK (show Kd.R Kd.bool 4 w w0.heap.size (fun k_=>(P2_ k_∨w.heap.size≤k_)) (.slice Ao13 l2.length co13) l2 from Kd.R_mono ho2 (fun k_ hk=>(.inl hk)))
 have HK:=aK (Kept.refl w (fun k_=>P2_ k_))
 have HW0:=aK hB.size
 have HB:=aK hB
 clear hB
 have H:((flat_Bounds.f l0).bind fun bt388=>((scan_from.f bt388.1).bind fun t393=>((scan_from.f (wrap64 (bt388.2.2.1+1))).bind fun t394=>(scan_cover.l0 k l0 a1 l2 (mx t393 0) (mn (wrap64 (t394-1)) (wrap64 ((l2.length:Int)-1)))))))=some r:=h
 clear h
 replace H:=Option.bind_eq_some_iff.mp H
 obtain ⟨⟨t388,t389,t390,t391⟩,A40,H⟩:=H
 replace H:((scan_from.f t388).bind fun t393=>((scan_from.f (wrap64 (t390+1))).bind fun t394=>(scan_cover.l0 k l0 a1 l2 (mx t393 0) (mn (wrap64 (t394-1)) (wrap64 ((l2.length:Int)-1))))))=some r:=H
 have A4:=aK A40
 clear A40
 replace H:=Option.bind_eq_some_iff.mp H
 obtain ⟨t393,A50,H⟩:=H
 replace H:((scan_from.f (wrap64 (t390+1))).bind fun t394=>(scan_cover.l0 k l0 a1 l2 (mx t393 0) (mn (wrap64 (t394-1)) (wrap64 ((l2.length:Int)-1)))))=some r:=H
 have A5:=aK A50
 clear A50
 obtain ⟨ji6,hji6⟩ : ∃ j_:Int,(mx t393 0)=j_:=⟨_,rfl⟩
 replace H:((scan_from.f (wrap64 (t390+1))).bind fun t394=>(scan_cover.l0 k l0 a1 l2 ji6 (mn (wrap64 (t394-1)) (wrap64 ((l2.length:Int)-1)))))=some r:=by first|(rw [hji6] at H;exact H)|(simp only [hji6] at H ⊢;exact H)
 (try rw [hji6] at A4)
 (try rw [hji6] at A5)
 (try (have hji6l:0≤ji6:=by (rw [← hji6];unfold mx;(repeat' split) <;> omega)))
 (try (have hji6m:0≤ji6:=by omega))
 have hji6_:(if t393<0 then 0 else t393)=ji6:=hji6
 replace H:=Option.bind_eq_some_iff.mp H
 obtain ⟨t394,A70,H⟩:=H
 replace H:(scan_cover.l0 k l0 a1 l2 ji6 (mn (wrap64 (t394-1)) (wrap64 ((l2.length:Int)-1))))=some r:=H
 have A7:=aK A70
 clear A70
 obtain ⟨ji8,hji8⟩ : ∃ j_:Int,(mn (wrap64 (t394-1)) (wrap64 ((l2.length:Int)-1)))=j_:=⟨_,rfl⟩
 replace H:(scan_cover.l0 k l0 a1 l2 ji6 ji8)=some r:=by first|(rw [hji8] at H;exact H)|(simp only [hji8] at H ⊢;exact H)
 (try rw [hji8] at A4)
 (try rw [hji8] at A5)
 (try rw [hji8] at A7)
 have hji8_:(if (wrap64 ((l2.length:Int)-1))<(wrap64 (t394-1)) then (wrap64 ((l2.length:Int)-1)) else (wrap64 (t394-1)))=ji8:=hji8
 have HC9:=aK H
 clear H
 go_enter Tryz.func82,Tryz.ntmps82
 go_upto_block 0 with (first|(go_at_call 81;(with_reducible refine (flat_Bounds.calls _ _ l0 t388 t389 t390 t391 _ ?side1 ?side2 A4.out).mono ?_);(case side1=>exact Kd.C_kept_now HR0.out (by repeat (first|(with_reducible first|exact HK.out|apply Kept.alloc|apply Kept.drewN|apply Kept.drew)|exact HK.out)));(case side2=>exact HC0.out);rintro e w10 ⟨rfl,hb⟩;have n0_:=aK (Kd.R_below (by (with_reducible repeat (first|apply Kd.R_alloc|apply Kd.R_drewN|apply Kd.R_drew));exact HO2.out) hb);have n1_:=aK (Kept.below (S:=(fun k_=>P2_ k_)) (by repeat (first|(with_reducible first|exact HK.out|apply Kept.alloc|apply Kept.drewN|apply Kept.drew)|exact HK.out)) hb);have n2_:=aK (below_step (by repeat (first|(with_reducible first|exact HB.out|apply below_alloc|apply pw_below_drewN|apply below_drew1)|exact HB.out)) hb);clear HO2;clear HK;clear HB;have HO2:=n0_;have HK:=n1_;have HB:=n2_;clear n0_ n1_ n2_;(try clear hb);(try clear hb2);(try clear hk);(try clear hi))|((with_reducible refine gate_dst (N:=6) rfl ?_);refine box_event ?hg (N:=6) ?hd (cs:=#[.int .i64 0,.int .i64 0,.int .i64 0,.int .i64 0]) (t:=92) ?hr ?_;(case hd=>rfl);(case hg=>rfl);(case hr=>first|(go_simp;done)|(go_simp;rfl));intro gb392 hg w11 hbox hb;have n0_:=aK (Kd.R_below (by (with_reducible repeat (first|apply Kd.R_alloc|apply Kd.R_drewN|apply Kd.R_drew));exact HO2.out) hb);have n1_:=aK (Kept.below (S:=(fun k_=>P2_ k_)) (by repeat (first|(with_reducible first|exact HK.out|apply Kept.alloc|apply Kept.drewN|apply Kept.drew)|exact HK.out)) hb);have n2_:=aK (below_step (by repeat (first|(with_reducible first|exact HB.out|apply below_alloc|apply pw_below_drewN|apply below_drew1)|exact HB.out)) hb);have n3_:=aK (hbox);have n4_:=aK ((by rw [hg];exact (by first|exact HK.out.1|exact (show Kept w _ (fun k_=>P2_ k_) from by repeat (first|(with_reducible first|exact HK.out|apply Kept.alloc|apply Kept.drewN|apply Kept.drew)|exact HK.out)).1):w.heap.size≤gb392));have n5_:=aK ((by rw [hg];exact (below_size (by repeat (first|(with_reducible first|exact HB.out|apply below_alloc|apply pw_below_drewN|apply below_drew1)|exact HB.out))):w0.heap.size≤gb392));clear HO2;clear HK;clear HB;have HO2:=n0_;have HK:=n1_;have HB:=n2_;have BK392:=n3_;have GW392:=n4_;have GE392:=n5_;clear n0_ n1_ n2_ n3_ n4_ n5_;clear hb hbox hg;have hcz12_0:w11.cell? ⟨gb392,0,none⟩=some (.int .i64 0):=(blk_cell BK392.out 0).trans rfl;have hcz12_1:w11.cell? ⟨gb392,1,none⟩=some (.int .i64 0):=(blk_cell BK392.out 1).trans rfl;have hcz12_2:w11.cell? ⟨gb392,2,none⟩=some (.int .i64 0):=(blk_cell BK392.out 2).trans rfl;have hcz12_3:w11.cell? ⟨gb392,3,none⟩=some (.int .i64 0):=(blk_cell BK392.out 3).trans rfl;have hfz12_0:=blk_frozen BK392.out 0;have hfz12_1:=blk_frozen BK392.out 1;have hfz12_2:=blk_frozen BK392.out 2;have hfz12_3:=blk_frozen BK392.out 3))
 repeat (go_quiet (first|(go_at_call 41;(with_reducible refine (scan_from.calls t388 t393 _ A5.out).mono ?_);rintro e w' ⟨rfl,⟨nd,rfl⟩⟩;(try first|exact ⟨rfl,_,World.drewN_drewN _ _ _⟩|exact ⟨rfl,_,Eq.trans (World.drewN_drewN _ _ _) (congrArg (World.drewN _) (Nat.add_assoc _ _ _))⟩))|(go_at_call 41;(with_reducible refine (scan_from.calls (wrap64 (t390+1)) t394 _ A7.out).mono ?_);rintro e w' ⟨rfl,⟨nd,rfl⟩⟩;(try first|exact ⟨rfl,_,World.drewN_drewN _ _ _⟩|exact ⟨rfl,_,Eq.trans (World.drewN_drewN _ _ _) (congrArg (World.drewN _) (Nat.add_assoc _ _ _))⟩)));go_upto_block 0 with (fail))
 (try simp only [Act.put,lS])
 go_cut [7] (fun v7 wc=>∃ (kq:Nat) (x7_8:Int),v7 = .int .i64 x7_8∧Aside0 (scan_cover.j1 kq l0 a1 l2 x7_8 ji8=some r)∧Aside0 (kq≤k)∧Aside0 (Kd.R Kd.bool 4 wc w0.heap.size (fun k_=>(P2_ k_∨w.heap.size≤k_)) (.slice Ao13 l2.length co13) l2)∧Aside0 (wc.heap[gb392]?=some (.cells #[.int .i64 t388,.int .i64 t389,.int .i64 t390,.int .i64 t391] 92 (0,0)))∧Aside0 (Kept w wc (fun k_=>P2_ k_))∧Aside0 (Below w0.heap.size w0 wc))
 case first =>
  have H:=HC9.out
  clear HC9
  have H':=aK H
  clear H
  go_wp2
  repeat (go_quiet (fail);try go_wp2)
  go_loopg [7] k (fun kq v7 w'=>∃ (x7_1:Int),v7 = .int .i64 x7_1∧Aside0 (scan_cover.l0 kq l0 a1 l2 x7_1 ji8=some r)∧Aside0 (kq≤k)∧Aside0 (Kd.R Kd.bool 4 w' w0.heap.size (fun k_=>(P2_ k_∨w.heap.size≤k_)) (.slice Ao13 l2.length co13) l2)∧Aside0 (w'.heap[gb392]?=some (.cells #[.int .i64 t388,.int .i64 t389,.int .i64 t390,.int .i64 t391] 92 (0,0)))∧Aside0 (Kept w w' (fun k_=>P2_ k_))∧Aside0 (Below w0.heap.size w0 w'))
  case atStart=>exact ⟨(ji6),(by first|rfl|(simp;done)|(simp only [← hji6] <;> (first|rfl|simp))|(simp [*];done)),H',⟨Nat.le_refl _⟩,⟨by (with_reducible repeat (first|apply Kd.R_alloc|apply Kd.R_drewN|apply Kd.R_drew));exact Kd.R_mono (Kd.R_far (p:=⟨gb392,3,none⟩) (Kd.R_far (p:=⟨gb392,2,none⟩) (Kd.R_far (p:=⟨gb392,1,none⟩) (Kd.R_far (p:=⟨gb392,0,none⟩) (Kd.R_types HO2.out BK392.out (by decide)) (fun _ hk=>hk.2) (.int .i64 t388)) (fun _ hk=>hk.2) (.int .i64 t389)) (fun _ hk=>hk.2) (.int .i64 t390)) (fun _ hk=>hk.2) (.int .i64 t391)) (fun _ hk=>hk.1)⟩,⟨by (with_reducible repeat (first|refine blk_drewN ?_ _|refine blk_drew ?_|refine blk_alloc ?_ _));refine blk_put (cs:=#[.int .i64 t388,.int .i64 t389,.int .i64 t390,.int .i64 0]) ?_ 3 _ rfl;(with_reducible repeat (first|refine blk_drewN ?_ _|refine blk_drew ?_|refine blk_alloc ?_ _));refine blk_put (cs:=#[.int .i64 t388,.int .i64 t389,.int .i64 0,.int .i64 0]) ?_ 2 _ rfl;(with_reducible repeat (first|refine blk_drewN ?_ _|refine blk_drew ?_|refine blk_alloc ?_ _));refine blk_put (cs:=#[.int .i64 t388,.int .i64 0,.int .i64 0,.int .i64 0]) ?_ 1 _ rfl;(with_reducible repeat (first|refine blk_drewN ?_ _|refine blk_drew ?_|refine blk_alloc ?_ _));refine blk_put (cs:=#[.int .i64 0,.int .i64 0,.int .i64 0,.int .i64 0]) ?_ 0 _ rfl;(with_reducible repeat (first|refine blk_drewN ?_ _|refine blk_drew ?_|refine blk_alloc ?_ _));exact BK392.out⟩,⟨by repeat (first|(with_reducible first|exact HK.out|apply Kept.alloc|apply Kept.drewN|apply Kept.drew|refine Kept.setCell ?_ (.inr GW392.out) _)|exact HK.out)⟩,⟨by repeat (first|(with_reducible first|exact HB.out|apply below_alloc|apply pw_below_drewN|apply below_drew1|refine below_set ?_ GE392.out)|exact HB.out)⟩⟩
  case round =>
   clear H'
   try clear p2
   try clear p6
   try clear c8
   try clear hcz12_0
   try clear hcz12_1
   try clear hcz12_2
   try clear hcz12_3
   try clear hfz12_0
   try clear hfz12_1
   try clear hfz12_2
   try clear hfz12_3
   obtain ⟨x7_1,rfl,HA,HK1,HO_2,BK392,HK,HB⟩:=hrel
   cases gk with
   | zero=>exact absurd HA.out (by simp [scan_cover.l0])
   | succ k1 =>
    have H:=HA.out
    clear HA
    simp only [scan_cover.l0] at H
    by_cases c14:x7_1≤ji8
    ·rw [if_pos c14] at H
     have c14b0:decide (x7_1≤ji8)=true:=decide_eq_true c14
     clear c14
     (first|rw [c14b0]|(simp only [i64_w,i32_w];rw [c14b0])|skip)
     replace H:=Option.bind_eq_some_iff.mp H
     obtain ⟨t395,A150,H⟩:=H
     replace H:((pen_Has.f l0 t395 a1).bind fun t396=>(if t396=true then (scan_cover.j1 k1 l0 a1 l2 x7_1 ji8) else (scan_cover.l0 k1 l0 a1 l2 (wrap64 (x7_1+1)) ji8)))=some r:=H
     have A15:=aK A150
     clear A150
     replace H:=Option.bind_eq_some_iff.mp H
     obtain ⟨t396,A160,H⟩:=H
     replace H:(if t396=true then (scan_cover.j1 k1 l0 a1 l2 x7_1 ji8) else (scan_cover.l0 k1 l0 a1 l2 (wrap64 (x7_1+1)) ji8))=some r:=H
     have A16:=aK A160
     clear A160
     by_cases c17:t396=true
     ·subst c17
      have H1:(scan_cover.j1 k1 l0 a1 l2 x7_1 ji8)=some r:=by rw [if_pos rfl] at H;exact H
      clear H
      have H:=H1
      clear H1
      have H':=aK H
      clear H
      go_wp2_with (first|(go_at_call 67;(with_reducible refine (scan_middle.calls x7_1 t395 _ A15.out).mono ?_);rintro e w' ⟨rfl,⟨nd,rfl⟩⟩;(try first|exact ⟨rfl,_,World.drewN_drewN _ _ _⟩|exact ⟨rfl,_,Eq.trans (World.drewN_drewN _ _ _) (congrArg (World.drewN _) (Nat.add_assoc _ _ _))⟩))|(go_at_call 65;(with_reducible refine (pen_Has.calls _ _ l0 t395 a1 true _ ?side1 ?side2 A16.out).mono ?_);(case side1=>exact Kd.C_kept_now HR0.out (by repeat (first|(with_reducible first|exact HK.out|apply Kept.alloc|apply Kept.drewN|apply Kept.drew|refine Kept.setCell ?_ (.inr GW392.out) _)|exact HK.out)));(case side2=>exact HC0.out);rintro e w18 ⟨rfl,hb⟩;have n0_:=aK (Kd.R_below (by (with_reducible repeat (first|apply Kd.R_alloc|apply Kd.R_drewN|apply Kd.R_drew));exact HO_2.out) hb);have n1_:=aK (blk_below (g:=gb392) (o:=.cells #[.int .i64 t388,.int .i64 t389,.int .i64 t390,.int .i64 t391] 92 (0,0)) (by (with_reducible repeat (first|refine blk_drewN ?_ _|refine blk_drew ?_|refine blk_alloc ?_ _));exact BK392.out) hb);have n2_:=aK (Kept.below (S:=(fun k_=>P2_ k_)) (by repeat (first|(with_reducible first|exact HK.out|apply Kept.alloc|apply Kept.drewN|apply Kept.drew|refine Kept.setCell ?_ (.inr GW392.out) _)|exact HK.out)) hb);have n3_:=aK (below_step (by repeat (first|(with_reducible first|exact HB.out|apply below_alloc|apply pw_below_drewN|apply below_drew1|refine below_set ?_ GE392.out)|exact HB.out)) hb);clear HO_2;clear BK392;clear HK;clear HB;have HO_2:=n0_;have BK392:=n1_;have HK:=n2_;have HB:=n3_;clear n0_ n1_ n2_ n3_;(try clear hb);(try clear hb2);(try clear hk);(try clear hi)))
      repeat (go_quiet (fail);try go_wp2_with (fail))
      go_meet
      case rel=>exact ⟨_,(x7_1),(by first|rfl|(simp;done)|(simp [*];done)),H',⟨by have:=HK1.out;first|omega|exact Nat.le_refl _⟩,⟨by (with_reducible repeat (first|apply Kd.R_alloc|apply Kd.R_drewN|apply Kd.R_drew));exact HO_2.out⟩,⟨by (with_reducible repeat (first|refine blk_drewN ?_ _|refine blk_drew ?_|refine blk_alloc ?_ _));exact BK392.out⟩,⟨by repeat (first|(with_reducible first|exact HK.out|apply Kept.alloc|apply Kept.drewN|apply Kept.drew|refine Kept.setCell ?_ (.inr GW392.out) _)|exact HK.out)⟩,⟨by repeat (first|(with_reducible first|exact HB.out|apply below_alloc|apply pw_below_drewN|apply below_drew1|refine below_set ?_ GE392.out)|exact HB.out)⟩⟩
     ·replace c17:=Bool.eq_false_iff.mpr c17
      subst c17
      have H1:(scan_cover.l0 k1 l0 a1 l2 (wrap64 (x7_1+1)) ji8)=some r:=by rw [if_neg (show ¬ (false=true) by decide)] at H;exact H
      clear H
      have H:=H1
      clear H1
      have H':=aK H
      clear H
      go_wp2_with (first|(go_at_call 67;(with_reducible refine (scan_middle.calls x7_1 t395 _ A15.out).mono ?_);rintro e w' ⟨rfl,⟨nd,rfl⟩⟩;(try first|exact ⟨rfl,_,World.drewN_drewN _ _ _⟩|exact ⟨rfl,_,Eq.trans (World.drewN_drewN _ _ _) (congrArg (World.drewN _) (Nat.add_assoc _ _ _))⟩))|(go_at_call 65;(with_reducible refine (pen_Has.calls _ _ l0 t395 a1 false _ ?side1 ?side2 A16.out).mono ?_);(case side1=>exact Kd.C_kept_now HR0.out (by repeat (first|(with_reducible first|exact HK.out|apply Kept.alloc|apply Kept.drewN|apply Kept.drew|refine Kept.setCell ?_ (.inr GW392.out) _)|exact HK.out)));(case side2=>exact HC0.out);rintro e w19 ⟨rfl,hb⟩;have n0_:=aK (Kd.R_below (by (with_reducible repeat (first|apply Kd.R_alloc|apply Kd.R_drewN|apply Kd.R_drew));exact HO_2.out) hb);have n1_:=aK (blk_below (g:=gb392) (o:=.cells #[.int .i64 t388,.int .i64 t389,.int .i64 t390,.int .i64 t391] 92 (0,0)) (by (with_reducible repeat (first|refine blk_drewN ?_ _|refine blk_drew ?_|refine blk_alloc ?_ _));exact BK392.out) hb);have n2_:=aK (Kept.below (S:=(fun k_=>P2_ k_)) (by repeat (first|(with_reducible first|exact HK.out|apply Kept.alloc|apply Kept.drewN|apply Kept.drew|refine Kept.setCell ?_ (.inr GW392.out) _)|exact HK.out)) hb);have n3_:=aK (below_step (by repeat (first|(with_reducible first|exact HB.out|apply below_alloc|apply pw_below_drewN|apply below_drew1|refine below_set ?_ GE392.out)|exact HB.out)) hb);clear HO_2;clear BK392;clear HK;clear HB;have HO_2:=n0_;have BK392:=n1_;have HK:=n2_;have HB:=n3_;clear n0_ n1_ n2_ n3_;(try clear hb);(try clear hb2);(try clear hk);(try clear hi)))
      repeat (go_quiet (fail);try go_wp2_with (fail))
      go_roundg k1
      case measure=>have:=HK1.out;omega
      case rel=>exact ⟨(wrap64 (x7_1+1)),(by first|rfl|(simp;done)|(simp [*];done)),H',⟨by have:=HK1.out;omega⟩,⟨by (with_reducible repeat (first|apply Kd.R_alloc|apply Kd.R_drewN|apply Kd.R_drew));exact HO_2.out⟩,⟨by (with_reducible repeat (first|refine blk_drewN ?_ _|refine blk_drew ?_|refine blk_alloc ?_ _));exact BK392.out⟩,⟨by repeat (first|(with_reducible first|exact HK.out|apply Kept.alloc|apply Kept.drewN|apply Kept.drew|refine Kept.setCell ?_ (.inr GW392.out) _)|exact HK.out)⟩,⟨by repeat (first|(with_reducible first|exact HB.out|apply below_alloc|apply pw_below_drewN|apply below_drew1|refine below_set ?_ GE392.out)|exact HB.out)⟩⟩
    ·rw [if_neg c14] at H
     have c14b0:decide (x7_1≤ji8)=false:=decide_eq_false c14
     clear c14
     (first|rw [c14b0]|(simp only [i64_w,i32_w];rw [c14b0])|skip)
     have H':=aK H
     clear H
     go_wp2
     repeat (go_quiet (fail);try go_wp2)
     go_meet
     case rel=>exact ⟨_,(x7_1),(by first|rfl|(simp;done)|(simp [*];done)),H',⟨by have:=HK1.out;first|omega|exact Nat.le_refl _⟩,⟨by (with_reducible repeat (first|apply Kd.R_alloc|apply Kd.R_drewN|apply Kd.R_drew));exact HO_2.out⟩,⟨by (with_reducible repeat (first|refine blk_drewN ?_ _|refine blk_drew ?_|refine blk_alloc ?_ _));exact BK392.out⟩,⟨by repeat (first|(with_reducible first|exact HK.out|apply Kept.alloc|apply Kept.drewN|apply Kept.drew|refine Kept.setCell ?_ (.inr GW392.out) _)|exact HK.out)⟩,⟨by repeat (first|(with_reducible first|exact HB.out|apply below_alloc|apply pw_below_drewN|apply below_drew1|refine below_set ?_ GE392.out)|exact HB.out)⟩⟩
 case rest =>
  clear HC9
  try clear c1
  try clear p2
  try clear p6
  try clear c8
  try clear c14
  try clear c14b0
  try clear c17
  try clear hcz12_0
  try clear hcz12_1
  try clear hcz12_2
  try clear hcz12_3
  try clear hfz12_0
  try clear hfz12_1
  try clear hfz12_2
  try clear hfz12_3
  try clear p2
  try clear p6
  obtain ⟨kq,x7_8,rfl,HA,HJ8,HO_2,BK392,HK,HB⟩:=hcut
  cases kq with
  | zero=>exact absurd HA.out (by simp [scan_cover.j1])
  | succ kj8 =>
   have H:=HA.out
   clear HA
   simp only [scan_cover.j1] at H
   have H':=aK H
   clear H
   go_wp2
   repeat (go_quiet (fail);try go_wp2)
   go_loopg [9] kj8 (fun kq v9 w'=>∃ (x2_2:List Bool) (x9_2:Int),v9 = .int .i64 x9_2∧Aside0 (scan_cover.l1 kq l0 a1 x2_2 ji8 x9_2=some r)∧Aside0 (kq≤kj8)∧Aside0 (Kd.R Kd.bool 4 w' w0.heap.size (fun k_=>(P2_ k_∨w.heap.size≤k_)) (.slice Ao13 l2.length co13) x2_2)∧Aside0 (w'.heap[gb392]?=some (.cells #[.int .i64 t388,.int .i64 t389,.int .i64 t390,.int .i64 t391] 92 (0,0)))∧Aside0 (Kept w w' (fun k_=>P2_ k_))∧Aside0 (Below w0.heap.size w0 w'))
   case atStart=>exact ⟨(l2),(x7_8),(by first|rfl|(simp;done)|(simp [*];done)),H',⟨Nat.le_refl _⟩,⟨by (with_reducible repeat (first|apply Kd.R_alloc|apply Kd.R_drewN|apply Kd.R_drew));exact HO_2.out⟩,⟨by (with_reducible repeat (first|refine blk_drewN ?_ _|refine blk_drew ?_|refine blk_alloc ?_ _));exact BK392.out⟩,⟨by repeat (first|(with_reducible first|exact HK.out|apply Kept.alloc|apply Kept.drewN|apply Kept.drew|refine Kept.setCell ?_ (.inr GW392.out) _)|exact HK.out)⟩,⟨by repeat (first|(with_reducible first|exact HB.out|apply below_alloc|apply pw_below_drewN|apply below_drew1|refine below_set ?_ GE392.out)|exact HB.out)⟩⟩
   case round =>
    clear H'
    try clear c1
    try clear p2
    try clear p6
    try clear c8
    try clear c14
    try clear c14b0
    try clear c17
    try clear hcz12_0
    try clear hcz12_1
    try clear hcz12_2
    try clear hcz12_3
    try clear hfz12_0
    try clear hfz12_1
    try clear hfz12_2
    try clear hfz12_3
    try clear p2
    try clear p6
    obtain ⟨x2_2,x9_2,rfl,HA,HK2,HO_2,BK392,HK,HB⟩:=hrel
    have hl2_2:=(Kd.R_reads' HO_2.out).1
    rw [hl2_2] at HO_2
    (try simp only [hl2_2])
    (try simp only [hl2_2] at BK392)
    cases gk with
    | zero=>exact absurd HA.out (by simp [scan_cover.l1])
    | succ k2 =>
     have H:=HA.out
     clear HA
     simp only [scan_cover.l1] at H
     by_cases c20:x9_2≤ji8
     ·rw [if_pos c20] at H
      have c20b0:decide (x9_2≤ji8)=true:=decide_eq_true c20
      clear c20
      replace H:=Option.bind_eq_some_iff.mp H
      obtain ⟨t397,A210,H⟩:=H
      replace H:((pen_Has.f l0 t397 a1).bind fun t398=>(if t398=true then (if 0≤x9_2 then (if x9_2<(x2_2.length:Int) then (scan_cover.l1 k2 l0 a1 (x2_2.set (x9_2:Int).toNat true) ji8 (wrap64 (x9_2+1))) else (none)) else (none)) else (some x2_2)))=some r:=H
      have A21:=aK A210
      clear A210
      replace H:=Option.bind_eq_some_iff.mp H
      obtain ⟨t398,A220,H⟩:=H
      replace H:(if t398=true then (if 0≤x9_2 then (if x9_2<(x2_2.length:Int) then (scan_cover.l1 k2 l0 a1 (x2_2.set (x9_2:Int).toNat true) ji8 (wrap64 (x9_2+1))) else (none)) else (none)) else (some x2_2))=some r:=H
      have A22:=aK A220
      clear A220
      by_cases c23:t398=true
      ·subst c23
       have H1:(if 0≤x9_2 then (if x9_2<(x2_2.length:Int) then (scan_cover.l1 k2 l0 a1 (x2_2.set (x9_2:Int).toNat true) ji8 (wrap64 (x9_2+1))) else (none)) else (none))=some r:=by rw [if_pos rfl] at H;exact H
       clear H
       have H:=H1
       clear H1
       by_cases c24:0≤x9_2
       ·rw [if_pos c24] at H
        have c24b0:decide (0≤x9_2)=true:=decide_eq_true c24
        clear c24
        by_cases c25:x9_2<(x2_2.length:Int)
        ·rw [if_pos c25] at H
         have c25b0:decide (x9_2<(x2_2.length:Int))=true:=decide_eq_true c25
         clear c25
         obtain ⟨y399,hy399⟩ : ∃ y_:List Bool,y_=(x2_2.set (x9_2:Int).toNat true):=⟨_,rfl⟩
         replace H:(scan_cover.l1 k2 l0 a1 y399 ji8 (wrap64 (x9_2+1)))=some r:=by first|(rw [hy399];with_reducible exact H)|(have H2_:=(Option.bind_some _ _).symm.trans H;rw [hy399];with_reducible exact H2_)|(have H2_:=(Option.bind_some _ _).symm.trans H;with_reducible exact H2_)|with_reducible exact H|(rw [hy399];exact H)|exact H
         have Ny399:=aK hy399
         clear hy399
         have H':=aK H
         clear H
         go_wp2_with (first|(go_at_call 67;(with_reducible refine (scan_middle.calls x9_2 t397 _ A21.out).mono ?_);rintro e w' ⟨rfl,⟨nd,rfl⟩⟩;(try first|exact ⟨rfl,_,World.drewN_drewN _ _ _⟩|exact ⟨rfl,_,Eq.trans (World.drewN_drewN _ _ _) (congrArg (World.drewN _) (Nat.add_assoc _ _ _))⟩))|(go_at_call 65;(with_reducible refine (pen_Has.calls _ _ l0 t397 a1 true _ ?side1 ?side2 A22.out).mono ?_);(case side1=>exact Kd.C_kept_now HR0.out (by repeat (first|(with_reducible first|exact HK.out|apply Kept.alloc|apply Kept.drewN|apply Kept.drew|refine Kept.setCell ?_ (.inr GW392.out) _)|exact HK.out)));(case side2=>exact HC0.out);rintro e w27 ⟨rfl,hb⟩;have n0_:=aK (Kd.R_below (by (with_reducible repeat (first|apply Kd.R_alloc|apply Kd.R_drewN|apply Kd.R_drew));exact HO_2.out) hb);have n1_:=aK (blk_below (g:=gb392) (o:=.cells #[.int .i64 t388,.int .i64 t389,.int .i64 t390,.int .i64 t391] 92 (0,0)) (by (with_reducible repeat (first|refine blk_drewN ?_ _|refine blk_drew ?_|refine blk_alloc ?_ _));exact BK392.out) hb);have n2_:=aK (Kept.below (S:=(fun k_=>P2_ k_)) (by repeat (first|(with_reducible first|exact HK.out|apply Kept.alloc|apply Kept.drewN|apply Kept.drew|refine Kept.setCell ?_ (.inr GW392.out) _)|exact HK.out)) hb);have n3_:=aK (below_step (by repeat (first|(with_reducible first|exact HB.out|apply below_alloc|apply pw_below_drewN|apply below_drew1|refine below_set ?_ GE392.out)|exact HB.out)) hb);clear HO_2;clear BK392;clear HK;clear HB;have HO_2:=n0_;have BK392:=n1_;have HK:=n2_;have HB:=n3_;clear n0_ n1_ n2_ n3_;(try clear hb);(try clear hb2);(try clear hk);(try clear hi);have p26:0≤(x9_2:Int):=of_decide_eq_true (by first|(with_reducible assumption)|assumption);have q26:(x9_2:Int)<((x2_2.length:Int):Int):=of_decide_eq_true (by first|(with_reducible assumption)|assumption);obtain ⟨go26,co26,eo26,gb26,gl26,cl26,HG26⟩:=Kd.R_form HO_2.out (by omega);(first|cases eo26|(injection eo26 with ea_ en_ ec_;(first|subst ea_|(injection ea_ with ea_;subst ea_));subst ec_;clear en_));have GB26:=aK gb26;have GG26:=aK HG26;clear gb26 gl26 HG26;have HMgo26:=aK (show (P2_ go26∨w.heap.size≤go26) from (HO_2.out.1 _ rfl));obtain ⟨hx26_0,hf26_0⟩:=Kd.R_celln false HO_2.out (x9_2:Int) p26 q26;replace p26:=eq_true p26;replace q26:=eq_true q26;obtain ⟨hy28_,hz28_⟩:=Kd.R_celln false HO_2.out (x9_2:Int) (of_decide_eq_true (by first|(with_reducible assumption)|assumption)) (of_decide_eq_true (by first|(with_reducible assumption)|assumption));have HP28:=Kd.R_putg HO_2.out (x9_2:Int) true)|((with_reducible refine gate_store (t:=4) (p:=57) rfl ?_);(try (rw [drewN_self w27];generalize hq_:World.drewN w27 _=w27;have n0_:=aK (Kd.R_at hq_ HO_2.out);have n1_:=aK (blk_at hq_ BK392.out);have n2_:=aK (kept_at hq_ HK.out);have n3_:=aK (below_at hq_ HB.out);clear hq_ HO_2 BK392 HK HB;have HO_2:=n0_;have BK392:=n1_;have HK:=n2_;have HB:=n3_;clear n0_ n1_ n2_ n3_;(try (obtain ⟨hy28_,hz28_⟩:=Kd.R_celln false HO_2.out (x9_2:Int) (of_decide_eq_true (by first|(with_reducible assumption)|assumption)) (of_decide_eq_true (by first|(with_reducible assumption)|assumption))));(try (have HP28:=Kd.R_putg HO_2.out (x9_2:Int) true))));refine store_event (t:=4) (p:=57) (v:=?vo_w29) (w1:=(w27.setCell ⟨go26,(x9_2:Int).toNat,none⟩ (.bool true))) ?hg ?ho ?hn ?hr ?_;(case ho=>rfl);(case hg=>rfl);(case hn=>rfl);(case hr=>first|(go_simp;done)|(go_simp;rfl));intro w29 hw;have hg:w27.grownBy w29 (some go26):=(by rw [hw];exact HP28.2);have hp_:Kd.R Kd.bool 4 w29 w0.heap.size (fun k_=>(P2_ k_∨w.heap.size≤k_)) (.slice (some ⟨go26,0,none⟩) x2_2.length co13) y399:=(by rw [hw,Ny399.out];exact HP28.1);clear HP28;have n0_:=aK (hp_);have n1_:=aK (blk_grown (g:=gb392) (o:=.cells #[.int .i64 t388,.int .i64 t389,.int .i64 t390,.int .i64 t391] 92 (0,0)) (by (with_reducible repeat (first|refine blk_drewN ?_ _|refine blk_drew ?_|refine blk_alloc ?_ _));exact BK392.out) hg (Kd.R_ne HO_2.out BK392.out (by decide)));have n2_:=aK ((by rw [hw];exact below_set (HB.out) GB26.out:Below w0.heap.size w0 w29));have n3_:=aK (Kept.of_grown (S:=(fun k_=>P2_ k_)) hg (by repeat (first|(with_reducible first|exact HK.out|apply Kept.alloc|apply Kept.drewN|apply Kept.drew|refine Kept.setCell ?_ (.inr GW392.out) _)|exact HK.out)) (fun k_ e_=>(HO_2.out.1 k_ e_)));clear HO_2;clear BK392;clear HB;clear HK;have HO_2:=n0_;have BK392:=n1_;have HB:=n2_;have HK:=n3_;clear n0_ n1_ n2_ n3_;clear hg hw hp_))
         repeat (go_quiet (fail);try go_wp2_with (fail))
         (try simp only [← hl2_2])
         go_roundg k2
         case measure=>have:=HJ8.out;have:=HK2.out;omega
         case rel=>exact ⟨(y399),(wrap64 (x9_2+1)),(by first|rfl|(simp;done)|(simp [*];done)),H',⟨by have:=HJ8.out;have:=HK2.out;omega⟩,⟨by (try simp only [hl2_2]);(with_reducible repeat (first|apply Kd.R_alloc|apply Kd.R_drewN|apply Kd.R_drew));exact HO_2.out⟩,⟨by (try simp only [hl2_2]);(with_reducible repeat (first|refine blk_drewN ?_ _|refine blk_drew ?_|refine blk_alloc ?_ _));exact BK392.out⟩,⟨by repeat (first|(with_reducible first|exact HK.out|apply Kept.alloc|apply Kept.drewN|apply Kept.drew|refine Kept.setCell ?_ (.inr GW392.out) _)|exact HK.out)⟩,⟨by repeat (first|(with_reducible first|exact HB.out|apply below_alloc|apply pw_below_drewN|apply below_drew1|refine below_set ?_ GE392.out)|exact HB.out)⟩⟩
        ·rw [if_neg c25] at H
         exact absurd H (by simp)
       ·rw [if_neg c24] at H
        exact absurd H (by simp)
      ·replace c23:=Bool.eq_false_iff.mpr c23
       subst c23
       have H1:(some x2_2)=some r:=by rw [if_neg (show ¬ (false=true) by decide)] at H;exact H
       clear H
       have H:=H1
       clear H1
       obtain rfl:=Option.some.inj H
       go_wp2_with (first|(go_at_call 67;(with_reducible refine (scan_middle.calls x9_2 t397 _ A21.out).mono ?_);rintro e w' ⟨rfl,⟨nd,rfl⟩⟩;(try first|exact ⟨rfl,_,World.drewN_drewN _ _ _⟩|exact ⟨rfl,_,Eq.trans (World.drewN_drewN _ _ _) (congrArg (World.drewN _) (Nat.add_assoc _ _ _))⟩))|(go_at_call 65;(with_reducible refine (pen_Has.calls _ _ l0 t397 a1 false _ ?side1 ?side2 A22.out).mono ?_);(case side1=>exact Kd.C_kept_now HR0.out (by repeat (first|(with_reducible first|exact HK.out|apply Kept.alloc|apply Kept.drewN|apply Kept.drew|refine Kept.setCell ?_ (.inr GW392.out) _)|exact HK.out)));(case side2=>exact HC0.out);rintro e w30 ⟨rfl,hb⟩;have n0_:=aK (Kd.R_below (by (with_reducible repeat (first|apply Kd.R_alloc|apply Kd.R_drewN|apply Kd.R_drew));exact HO_2.out) hb);have n1_:=aK (blk_below (g:=gb392) (o:=.cells #[.int .i64 t388,.int .i64 t389,.int .i64 t390,.int .i64 t391] 92 (0,0)) (by (with_reducible repeat (first|refine blk_drewN ?_ _|refine blk_drew ?_|refine blk_alloc ?_ _));exact BK392.out) hb);have n2_:=aK (Kept.below (S:=(fun k_=>P2_ k_)) (by repeat (first|(with_reducible first|exact HK.out|apply Kept.alloc|apply Kept.drewN|apply Kept.drew|refine Kept.setCell ?_ (.inr GW392.out) _)|exact HK.out)) hb);have n3_:=aK (below_step (by repeat (first|(with_reducible first|exact HB.out|apply below_alloc|apply pw_below_drewN|apply below_drew1|refine below_set ?_ GE392.out)|exact HB.out)) hb);clear HO_2;clear BK392;clear HK;clear HB;have HO_2:=n0_;have BK392:=n1_;have HK:=n2_;have HB:=n3_;clear n0_ n1_ n2_ n3_;(try clear hb);(try clear hb2);(try clear hk);(try clear hi)))
       repeat (go_quiet (fail);try go_wp2_with (fail))
       first|go_end0|((try simp only [Exit.inBlock,Exit.then]);refine bodyPost_ret (results_none rfl _ _ _) rfl ?_)
       exact ⟨by first|rfl|(simp [errW_none,errW_some] <;> rfl)|(simp only [← hji6,← hji8];first|rfl|(simp [errW_none,errW_some] <;> rfl))|(simp [*,errW_none,errW_some] <;> rfl),(by first|exact (by (with_reducible repeat (first|apply Kd.R_alloc|apply Kd.R_drewN|apply Kd.R_drew));exact HO_2.out)|(simp only [hl2_2];exact (by (with_reducible repeat (first|apply Kd.R_alloc|apply Kd.R_drewN|apply Kd.R_drew));exact HO_2.out))),by repeat (first|(with_reducible first|exact HB.out|apply below_alloc|apply pw_below_drewN|apply below_drew1|refine below_set ?_ GE392.out)|exact HB.out),by repeat (first|(with_reducible first|exact HK.out|apply Kept.alloc|apply Kept.drewN|apply Kept.drew|refine Kept.setCell ?_ (.inr GW392.out) _)|exact HK.out)⟩
     ·rw [if_neg c20] at H
      have c20b0:decide (x9_2≤ji8)=false:=decide_eq_false c20
      clear c20
      obtain rfl:=Option.some.inj H
      go_wp2
      repeat (go_quiet (fail);try go_wp2)
      first|go_end0|((try simp only [Exit.inBlock,Exit.then]);refine bodyPost_ret (results_none rfl _ _ _) rfl ?_)
      exact ⟨by first|rfl|(simp [errW_none,errW_some] <;> rfl)|(simp only [← hji6,← hji8];first|rfl|(simp [errW_none,errW_some] <;> rfl))|(simp [*,errW_none,errW_some] <;> rfl),(by first|exact (by (with_reducible repeat (first|apply Kd.R_alloc|apply Kd.R_drewN|apply Kd.R_drew));exact HO_2.out)|(simp only [hl2_2];exact (by (with_reducible repeat (first|apply Kd.R_alloc|apply Kd.R_drewN|apply Kd.R_drew));exact HO_2.out))),by repeat (first|(with_reducible first|exact HB.out|apply below_alloc|apply pw_below_drewN|apply below_drew1|refine below_set ?_ GE392.out)|exact HB.out),by repeat (first|(with_reducible first|exact HK.out|apply Kept.alloc|apply Kept.drewN|apply Kept.drew|refine Kept.setCell ?_ (.inr GW392.out) _)|exact HK.out)⟩
mutual
def scan_Covered.l0:Nat→List (S47)→List (S47)→List Bool→Int→Int→Int→List (S47)→Int→Int→Option ((List (S23)))
 | 0,_,_,_,_,_,_,_,_,_=>none
 | k+1,x0,x1,x9,x10,x11,x12,x28,x29,x30=>if x30<x29 then (if 0≤x30 then (if x30<(x28.length:Int) then (if 0≤(mx (wrap64 (x30-1)) 0) then (if (mx (wrap64 (x30-1)) 0)<(x1.length:Int) then (if x30=0 then (if (x1.length:Int)>1 then (scan_Covered.j1 k x0 x1 x9 x10 x11 x12 x28 x29 x30 true ((rd_T47 x28 x30).f0) ((rd_T47 x28 x30).f1) ((rd_T47 x1 (mx (wrap64 (x30-1)) 0)).f0) ((rd_T47 x1 (mx (wrap64 (x30-1)) 0)).f1)) else (if (wrap64 ((mn ((rd_T47 x1 (mx (wrap64 (x30-1)) 0)).f1) ((rd_T47 x28 x30).f1))+x11))>x10 then (scan_Covered.j1 k x0 x1 x9 x10 x11 x12 x28 x29 x30 true ((rd_T47 x28 x30).f0) ((rd_T47 x28 x30).f1) ((rd_T47 x1 (mx (wrap64 (x30-1)) 0)).f0) ((rd_T47 x1 (mx (wrap64 (x30-1)) 0)).f1)) else (scan_Covered.j1 k x0 x1 x9 x10 x11 x12 x28 x29 x30 (decide ((wrap64 ((mx ((rd_T47 x1 (mx (wrap64 (x30-1)) 0)).f1) ((rd_T47 x28 x30).f1))+x12))<x10)) ((rd_T47 x28 x30).f0) ((rd_T47 x28 x30).f1) ((rd_T47 x1 (mx (wrap64 (x30-1)) 0)).f0) ((rd_T47 x1 (mx (wrap64 (x30-1)) 0)).f1)))) else (if (wrap64 ((mn ((rd_T47 x1 (mx (wrap64 (x30-1)) 0)).f1) ((rd_T47 x28 x30).f1))+x11))>x10 then (scan_Covered.j1 k x0 x1 x9 x10 x11 x12 x28 x29 x30 true ((rd_T47 x28 x30).f0) ((rd_T47 x28 x30).f1) ((rd_T47 x1 (mx (wrap64 (x30-1)) 0)).f0) ((rd_T47 x1 (mx (wrap64 (x30-1)) 0)).f1)) else (scan_Covered.j1 k x0 x1 x9 x10 x11 x12 x28 x29 x30 (decide ((wrap64 ((mx ((rd_T47 x1 (mx (wrap64 (x30-1)) 0)).f1) ((rd_T47 x28 x30).f1))+x12))<x10)) ((rd_T47 x28 x30).f0) ((rd_T47 x28 x30).f1) ((rd_T47 x1 (mx (wrap64 (x30-1)) 0)).f0) ((rd_T47 x1 (mx (wrap64 (x30-1)) 0)).f1)))) else (none)) else (none)) else (none)) else (none)) else ((scan_spans.f k x9).bind fun t412=>(some t412))
def scan_Covered.j1:Nat→List (S47)→List (S47)→List Bool→Int→Int→Int→List (S47)→Int→Int→Bool→Int→Int→Int→Int→Option ((List (S23)))
 | 0,_,_,_,_,_,_,_,_,_,_,_,_,_,_=>none
 | k+1,x0,x1,x9,x10,x11,x12,x28,x29,x30,x69,x417000,x417001,x419000,x419001=>if x69=true then (scan_Covered.l0 k x0 x1 x9 x10 x11 x12 x28 x29 (wrap64 (x30+1))) else ((pen_Swept.f k x0 x419000 x419001 x417000 x417001).bind fun t419=>((scan_cover.f k t419 x10 x9).bind fun t422=>(scan_Covered.l0 k x0 x1 t422 x10 x11 x12 x28 x29 (wrap64 (x30+1)))))
end
def scan_Covered.f (k:Nat) (l0:List (S47)) (l1:List (S47)) (a2:Int) (a3:Int):Option ((List (S23))):=if 0≤a2 then (if (a2:Int).toNat≤281474976710656 then ((scan_middle.f a3).bind fun t403=>((flat_Bounds.f l0).bind fun bt404=>((flat_Bounds.f l0).bind fun bt408=>(scan_Covered.l0 k l0 l1 (List.replicate (a2:Int).toNat false) t403 bt404.2.1 bt408.2.2.2 l1 (l1.length:Int) 0)))) else (none)) else (none)
theorem scan_Covered.mono_l : ∀ k,(∀ y0 y1 y2 y3 y4 y5 y6 y7 y8,LeO (scan_Covered.l0 k y0 y1 y2 y3 y4 y5 y6 y7 y8) (scan_Covered.l0 (k+1) y0 y1 y2 y3 y4 y5 y6 y7 y8))∧(∀ y0 y1 y2 y3 y4 y5 y6 y7 y8 y9 y10 y11 y12 y13,LeO (scan_Covered.j1 k y0 y1 y2 y3 y4 y5 y6 y7 y8 y9 y10 y11 y12 y13) (scan_Covered.j1 (k+1) y0 y1 y2 y3 y4 y5 y6 y7 y8 y9 y10 y11 y12 y13))
 | 0=>⟨fun _ _ _ _ _ _ _ _ _ r h=>by simp [scan_Covered.l0] at h,fun _ _ _ _ _ _ _ _ _ _ _ _ _ _ r h=>by simp [scan_Covered.j1] at h⟩
 | k+1=>by
  obtain ⟨ih0,ih1⟩:=scan_Covered.mono_l k
  refine ⟨?_,?_⟩
  ·intro y0 y1 y2 y3 y4 y5 y6 y7 y8
   unfold scan_Covered.l0
   repeat' first
   | (with_reducible exact ih0 _ _ _ _ _ _ _ _ _)
   | (with_reducible exact ih1 _ _ _ _ _ _ _ _ _ _ _ _ _ _)
   | (with_reducible exact pen_Swept.mono _ _ _ _ _ _)
   | (with_reducible exact scan_cover.mono _ _ _ _)
   | (with_reducible exact scan_spans.mono _ _)
   | (with_reducible exact LeO.refl _)
   | (with_reducible exact LeO.none _)
   | (with_reducible refine LeO.ite ?_ ?_)
   | (with_reducible refine LeO.bind ?_ (fun _=>?_))
   | exact ih0 _ _ _ _ _ _ _ _ _
   | exact ih1 _ _ _ _ _ _ _ _ _ _ _ _ _ _
   | exact pen_Swept.mono _ _ _ _ _ _
   | exact scan_cover.mono _ _ _ _
   | exact scan_spans.mono _ _
   | exact LeO.none _
   | refine LeO.ite ?_ ?_
   | refine LeO.bind ?_ (fun _=>?_)
  ·intro y0 y1 y2 y3 y4 y5 y6 y7 y8 y9 y10 y11 y12 y13
   unfold scan_Covered.j1
   repeat' first
   | (with_reducible exact ih0 _ _ _ _ _ _ _ _ _)
   | (with_reducible exact ih1 _ _ _ _ _ _ _ _ _ _ _ _ _ _)
   | (with_reducible exact pen_Swept.mono _ _ _ _ _ _)
   | (with_reducible exact scan_cover.mono _ _ _ _)
   | (with_reducible exact scan_spans.mono _ _)
   | (with_reducible exact LeO.refl _)
   | (with_reducible exact LeO.none _)
   | (with_reducible refine LeO.ite ?_ ?_)
   | (with_reducible refine LeO.bind ?_ (fun _=>?_))
   | exact ih0 _ _ _ _ _ _ _ _ _
   | exact ih1 _ _ _ _ _ _ _ _ _ _ _ _ _ _
   | exact pen_Swept.mono _ _ _ _ _ _
   | exact scan_cover.mono _ _ _ _
   | exact scan_spans.mono _ _
   | exact LeO.none _
   | refine LeO.ite ?_ ?_
   | refine LeO.bind ?_ (fun _=>?_)
theorem scan_Covered.mono : ∀ a0 a1 a2 a3 k,LeO (scan_Covered.f k a0 a1 a2 a3) (scan_Covered.f (k+1) a0 a1 a2 a3):=by
 intro a0 a1 a2 a3 k
 obtain ⟨ih0,ih1⟩:=scan_Covered.mono_l k
 unfold scan_Covered.f
 repeat' first
   | (with_reducible exact ih0 _ _ _ _ _ _ _ _ _)
   | (with_reducible exact ih1 _ _ _ _ _ _ _ _ _ _ _ _ _ _)
   | (with_reducible exact pen_Swept.mono _ _ _ _ _ _)
   | (with_reducible exact scan_cover.mono _ _ _ _)
   | (with_reducible exact scan_spans.mono _ _)
   | (with_reducible exact LeO.refl _)
   | (with_reducible exact LeO.none _)
   | (with_reducible refine LeO.ite ?_ ?_)
   | (with_reducible refine LeO.bind ?_ (fun _=>?_))
   | exact ih0 _ _ _ _ _ _ _ _ _
   | exact ih1 _ _ _ _ _ _ _ _ _ _ _ _ _ _
   | exact pen_Swept.mono _ _ _ _ _ _
   | exact scan_cover.mono _ _ _ _
   | exact scan_spans.mono _ _
   | exact LeO.none _
   | refine LeO.ite ?_ ?_
   | refine LeO.bind ?_ (fun _=>?_)
set_option maxHeartbeats 8000000 in
theorem scan_Covered.calls (k:Nat) (A0:Option Addr) (c0:Nat) (l0:List (S47)) (A1:Option Addr) (c1:Nat) (l1:List (S47)) (a2:Int) (a3:Int) (r:List (S23)) (w:World) (hr0:Kd.C k47 w A0 l0.length l0) (hc0:l0.length≤c0) (hr1:Kd.C k47 w A1 l1.length l1) (hc1:l1.length≤c1) (h:scan_Covered.f k l0 l1 a2 a3=some r) :
  Calls Tryz.prog 44 #[.slice A0 l0.length c0,.slice A1 l1.length c1,.int .i64 a2,.int .i64 a3] w fun e w'=>∃ v0_:Value,e = .returned (v0_)∧Kd.R k23 23 w' w.heap.size (fun _=>True) v0_ r∧Below w.heap.size w w':=by
 have hu47:=Tryz.underlying47
 have HR0:=aK hr0
 have HC0:=aK hc0
 clear hr0 hc0
 have HR1:=aK hr1
 have HC1:=aK hc1
 clear hr1 hc1
 have HB:=aK (Below.refl w.heap.size w)
 have H:(if 0≤a2 then (if (a2:Int).toNat≤281474976710656 then ((scan_middle.f a3).bind fun t403=>((flat_Bounds.f l0).bind fun bt404=>((flat_Bounds.f l0).bind fun bt408=>(scan_Covered.l0 k l0 l1 (List.replicate (a2:Int).toNat false) t403 bt404.2.1 bt408.2.2.2 l1 (l1.length:Int) 0)))) else (none)) else (none))=some r:=h
 clear h
 by_cases c5:0≤a2
 ·rw [if_pos c5] at H
  have c5b0:=eq_true c5
  have c5b1:decide (0≤a2)=true:=decide_eq_true c5
  clear c5
  by_cases c6:(a2:Int).toNat≤281474976710656
  ·rw [if_pos c6] at H
   have c6b0:=eq_true c6
   have c6b1:decide ((a2:Int).toNat≤281474976710656)=true:=decide_eq_true c6
   clear c6
   obtain ⟨y400,hy400⟩ : ∃ y_:List Bool,y_=(List.replicate (a2:Int).toNat false):=⟨_,rfl⟩
   replace H:((scan_middle.f a3).bind fun t403=>((flat_Bounds.f l0).bind fun bt404=>((flat_Bounds.f l0).bind fun bt408=>(scan_Covered.l0 k l0 l1 y400 t403 bt404.2.1 bt408.2.2.2 l1 (l1.length:Int) 0))))=some r:=by first|(rw [hy400];with_reducible exact H)|(have H2_:=(Option.bind_some _ _).symm.trans H;rw [hy400];with_reducible exact H2_)|(have H2_:=(Option.bind_some _ _).symm.trans H;with_reducible exact H2_)|with_reducible exact H|(rw [hy400];exact H)|exact H
   have Ny400:=aK hy400
   clear hy400
   replace H:=Option.bind_eq_some_iff.mp H
   obtain ⟨t403,A70,H⟩:=H
   replace H:((flat_Bounds.f l0).bind fun bt404=>((flat_Bounds.f l0).bind fun bt408=>(scan_Covered.l0 k l0 l1 y400 t403 bt404.2.1 bt408.2.2.2 l1 (l1.length:Int) 0)))=some r:=H
   have A7:=aK A70
   clear A70
   replace H:=Option.bind_eq_some_iff.mp H
   obtain ⟨⟨t404,t405,t406,t407⟩,A80,H⟩:=H
   replace H:((flat_Bounds.f l0).bind fun bt408=>(scan_Covered.l0 k l0 l1 y400 t403 t405 bt408.2.2.2 l1 (l1.length:Int) 0))=some r:=H
   have A8:=aK A80
   clear A80
   replace H:=Option.bind_eq_some_iff.mp H
   obtain ⟨⟨t408,t409,t410,t411⟩,A90,H⟩:=H
   replace H:(scan_Covered.l0 k l0 l1 y400 t403 t405 t411 l1 (l1.length:Int) 0)=some r:=H
   have A9:=aK A90
   clear A90
   have H':=aK H
   clear H
   go_enter Tryz.func44,Tryz.ntmps44
   go_wp2_with (first|((with_reducible refine gate_dst (N:=17) rfl ?_);refine Kd.R_make Kd.bool _ 4 rfl (N:=17) rfl 51 _ _ rfl a2 rfl rfl Tryz.underlying51 (.bool false) 1 info4 rfl (by decide) (by omega) false (ok:=fun _=>True) (okp:=fun _=>True) rfl (fun _ hk=>hk) trivial (of_decide_eq_true (by first|(with_reducible assumption)|assumption)) (Nat.le_trans (Nat.mul_le_mul_right _ (of_decide_eq_true (by first|(with_reducible assumption)|assumption):a2.toNat≤281474976710656)) (by omega)) (Below.refl _ _) (Nat.le_refl _) ?_;intro v401 w10 ho11 hb hg_ hnew_;clear hg_ hnew_;(first|rw [← Ny400.out] at ho11|(simp only [Int.reduceToNat] at ho11;rw [← Ny400.out] at ho11));have n0_:=aK (Kd.R_lower ho11 (below_size (by repeat (first|(with_reducible first|exact HB.out|apply below_alloc|apply pw_below_drewN|apply below_drew1)|exact HB.out))));have n1_:=aK (below_step (by repeat (first|(with_reducible first|exact HB.out|apply below_alloc|apply pw_below_drewN|apply below_drew1)|exact HB.out)) hb);clear HB;have HO402:=n0_;have HB:=n1_;clear n0_ n1_;clear hb ho11)|((with_reducible refine gate_callee (f:=67) rfl ?_);refine goesL_ (some 19) rfl rfl Tryz.func67 (by kernel_rfl) rfl #[.int .i64 a3] rfl (by (try simp only [List.map_toArray,List.map_cons,List.map_nil]);first|done|rfl|(simp only [List.length_drop,List.length_take];rfl)) ?_;(with_reducible refine (scan_middle.calls a3 t403 _ A7.out).mono ?_);rintro e w' ⟨rfl,⟨nd,rfl⟩⟩;refine ⟨_,rfl,?_⟩)|((with_reducible refine gate_callee (f:=81) rfl ?_);refine goesL_ (some 21) rfl rfl Tryz.func81 (by kernel_rfl) rfl #[.slice A0 l0.length c0] rfl (by (try simp only [List.map_toArray,List.map_cons,List.map_nil]);first|done|rfl|(simp only [List.length_drop,List.length_take];rfl)) ?_;(with_reducible refine (flat_Bounds.calls _ _ l0 t404 t405 t406 t407 _ ?side1 ?side2 A8.out).mono ?_);(case side1=>repeat (first|exact (Kd.C_below HR0.out (by repeat (first|(with_reducible first|exact HB.out|apply below_alloc|apply pw_below_drewN|apply below_drew1)|exact HB.out)))|(with_reducible refine Kd.C_alloc ?_ _)|(with_reducible refine Kd.C_drewN ?_ _)|(with_reducible refine Kd.C_drew ?_)));(case side2=>exact HC0.out);rintro e w12 ⟨rfl,hb⟩;refine ⟨_,rfl,?_⟩;have n0_:=aK (Kd.R_below (by (with_reducible repeat (first|apply Kd.R_alloc|apply Kd.R_drewN|apply Kd.R_drew));exact HO402.out) hb);have n1_:=aK (below_step (by repeat (first|(with_reducible first|exact HB.out|apply below_alloc|apply pw_below_drewN|apply below_drew1)|exact HB.out)) hb);clear HO402;clear HB;have HO402:=n0_;have HB:=n1_;clear n0_ n1_;(try clear hb);(try clear hb2);(try clear hk);(try clear hi))|((with_reducible refine gate_callee (f:=81) rfl ?_);refine goesL_ (some 25) rfl rfl Tryz.func81 (by kernel_rfl) rfl #[.slice A0 l0.length c0] rfl (by (try simp only [List.map_toArray,List.map_cons,List.map_nil]);first|done|rfl|(simp only [List.length_drop,List.length_take];rfl)) ?_;(with_reducible refine (flat_Bounds.calls _ _ l0 t408 t409 t410 t411 _ ?side1 ?side2 A9.out).mono ?_);(case side1=>repeat (first|exact (Kd.C_below HR0.out HB.out)|(with_reducible refine Kd.C_alloc ?_ _)|(with_reducible refine Kd.C_drewN ?_ _)|(with_reducible refine Kd.C_drew ?_)));(case side2=>exact HC0.out);rintro e w13 ⟨rfl,hb⟩;refine ⟨_,rfl,?_⟩;have n0_:=aK (Kd.R_below (by (with_reducible repeat (first|apply Kd.R_alloc|apply Kd.R_drewN|apply Kd.R_drew));exact HO402.out) hb);have n1_:=aK (below_step (by repeat (first|(with_reducible first|exact HB.out|apply below_alloc|apply pw_below_drewN|apply below_drew1)|exact HB.out)) hb);clear HO402;clear HB;have HO402:=n0_;have HB:=n1_;clear n0_ n1_;(try clear hb);(try clear hb2);(try clear hk);(try clear hi)))
   go_loopg [30] k (fun kq v30 w'=>∃ (x9_1:List Bool) (x30_1:Int),v30 = .int .i64 x30_1∧Aside0 (scan_Covered.l0 kq l0 l1 x9_1 t403 t405 t411 l1 (l1.length:Int) x30_1=some r)∧Aside0 (kq≤k)∧Aside0 (Kd.R Kd.bool 4 w' w.heap.size (fun _=>True) v401 x9_1)∧Aside0 (Below w.heap.size w w'))
   case atStart=>exact ⟨(y400),(0),(by first|rfl|(simp;done)|(simp [*];done)),H',⟨Nat.le_refl _⟩,⟨by (with_reducible repeat (first|apply Kd.R_alloc|apply Kd.R_drewN|apply Kd.R_drew));exact HO402.out⟩,⟨by repeat (first|(with_reducible first|exact HB.out|apply below_alloc|apply pw_below_drewN|apply below_drew1)|exact HB.out)⟩⟩
   case round =>
    clear H'
    try clear c1
    try clear p2
    try clear c4
    try clear c5
    try clear c5b0
    try clear c5b1
    try clear c6
    try clear c6b0
    try clear c6b1
    try clear c8
    obtain ⟨x9_1,x30_1,rfl,HA,HK1,HO_9,HB⟩:=hrel
    cases gk with
    | zero=>exact absurd HA.out (by simp [scan_Covered.l0])
    | succ k1 =>
     have H:=HA.out
     clear HA
     simp only [scan_Covered.l0] at H
     by_cases c14:x30_1<(l1.length:Int)
     ·rw [if_pos c14] at H
      have c14b0:decide (x30_1<(l1.length:Int))=true:=decide_eq_true c14
      clear c14
      by_cases c15:0≤x30_1
      ·rw [if_pos c15] at H
       have c15b0:decide (0≤x30_1)=true:=decide_eq_true c15
       clear c15
       by_cases c16:x30_1<(l1.length:Int)
       ·rw [if_pos c16] at H
        have c16b0:decide (x30_1<(l1.length:Int))=true:=decide_eq_true c16
        clear c16
        obtain ⟨ji17,hji17⟩ : ∃ j_:Int,(mx (wrap64 (x30_1-1)) 0)=j_:=⟨_,rfl⟩
        replace H:(if 0≤(ji17) then (if (ji17)<(l1.length:Int) then (if x30_1=0 then (if (l1.length:Int)>1 then (scan_Covered.j1 k1 l0 l1 x9_1 t403 t405 t411 l1 (l1.length:Int) x30_1 true ((rd_T47 l1 x30_1).f0) ((rd_T47 l1 x30_1).f1) ((rd_T47 l1 (ji17)).f0) ((rd_T47 l1 (ji17)).f1)) else (if (wrap64 ((mn ((rd_T47 l1 (ji17)).f1) ((rd_T47 l1 x30_1).f1))+t405))>t403 then (scan_Covered.j1 k1 l0 l1 x9_1 t403 t405 t411 l1 (l1.length:Int) x30_1 true ((rd_T47 l1 x30_1).f0) ((rd_T47 l1 x30_1).f1) ((rd_T47 l1 (ji17)).f0) ((rd_T47 l1 (ji17)).f1)) else (scan_Covered.j1 k1 l0 l1 x9_1 t403 t405 t411 l1 (l1.length:Int) x30_1 (decide ((wrap64 ((mx ((rd_T47 l1 (ji17)).f1) ((rd_T47 l1 x30_1).f1))+t411))<t403)) ((rd_T47 l1 x30_1).f0) ((rd_T47 l1 x30_1).f1) ((rd_T47 l1 (ji17)).f0) ((rd_T47 l1 (ji17)).f1)))) else (if (wrap64 ((mn ((rd_T47 l1 (ji17)).f1) ((rd_T47 l1 x30_1).f1))+t405))>t403 then (scan_Covered.j1 k1 l0 l1 x9_1 t403 t405 t411 l1 (l1.length:Int) x30_1 true ((rd_T47 l1 x30_1).f0) ((rd_T47 l1 x30_1).f1) ((rd_T47 l1 (ji17)).f0) ((rd_T47 l1 (ji17)).f1)) else (scan_Covered.j1 k1 l0 l1 x9_1 t403 t405 t411 l1 (l1.length:Int) x30_1 (decide ((wrap64 ((mx ((rd_T47 l1 (ji17)).f1) ((rd_T47 l1 x30_1).f1))+t411))<t403)) ((rd_T47 l1 x30_1).f0) ((rd_T47 l1 x30_1).f1) ((rd_T47 l1 (ji17)).f0) ((rd_T47 l1 (ji17)).f1)))) else (none)) else (none))=some r:=by first|(rw [hji17] at H;exact H)|(simp only [hji17] at H ⊢;exact H)
        have hji17_:(if (wrap64 (x30_1-1))<0 then 0 else (wrap64 (x30_1-1)))=ji17:=hji17
        by_cases c18:0≤(ji17)
        ·rw [if_pos c18] at H
         have c18b0:decide (0≤(ji17))=true:=decide_eq_true c18
         clear c18
         by_cases c19:(ji17)<(l1.length:Int)
         ·rw [if_pos c19] at H
          have c19b0:decide ((ji17)<(l1.length:Int))=true:=decide_eq_true c19
          clear c19
          have HC20:=aK H
          clear H
          have p415:0≤(x30_1:Int):=of_decide_eq_true (by first|(with_reducible assumption)|assumption)
          have q415:x30_1<(l1.length:Int):=of_decide_eq_true (by first|(with_reducible assumption)|assumption)
          obtain ⟨ad415,e415,hx415_0,hx415_1⟩:=at_T47 HR1.out x30_1 p415 q415
          cases e415
          replace hx415_0:=(HB.out.cell (World.block_lt_of_cell? w _ hx415_0)).trans hx415_0
          replace hx415_1:=(HB.out.cell (World.block_lt_of_cell? w _ hx415_1)).trans hx415_1
          replace p415:=eq_true p415
          replace q415:=eq_true q415
          go_upto_region 8 with (first|((with_reducible refine gate_dst (N:=14) rfl ?_);refine box_event ?hg (N:=14) ?hd (cs:=#[.int .i64 0,.int .i64 0]) (t:=47) ?hr ?_;(case hd=>rfl);(case hg=>rfl);(case hr=>first|(go_simp;done)|(go_simp;rfl));intro gb416 hg w21 hbox hb;have n0_:=aK (Kd.R_below (by (with_reducible repeat (first|apply Kd.R_alloc|apply Kd.R_drewN|apply Kd.R_drew));exact HO_9.out) hb);have n1_:=aK (below_step (by repeat (first|(with_reducible first|exact HB.out|apply below_alloc|apply pw_below_drewN|apply below_drew1)|exact HB.out)) hb);have n2_:=aK (hbox);have n3_:=aK ((by rw [hg];exact (below_size (by repeat (first|(with_reducible first|exact HB.out|apply below_alloc|apply pw_below_drewN|apply below_drew1)|exact HB.out))):w.heap.size≤gb416));have n4_:=n3_;clear HO_9;clear HB;have HO_9:=n0_;have HB:=n1_;have BK416:=n2_;have GW416:=n3_;have GE416:=n4_;clear n0_ n1_ n2_ n3_ n4_;clear hb hbox hg;have hcz22_0:w21.cell? ⟨gb416,0,none⟩=some (.int .i64 0):=(blk_cell BK416.out 0).trans rfl;have hcz22_1:w21.cell? ⟨gb416,1,none⟩=some (.int .i64 0):=(blk_cell BK416.out 1).trans rfl;have hfz22_0:=blk_frozen BK416.out 0;have hfz22_1:=blk_frozen BK416.out 1;have p417:0≤((ji17):Int):=of_decide_eq_true (by first|(with_reducible assumption)|assumption);have q417:(ji17)<(l1.length:Int):=of_decide_eq_true (by first|(with_reducible assumption)|assumption);obtain ⟨ad417,e417,hx417_0,hx417_1⟩:=at_T47 HR1.out (ji17) p417 q417;obtain rfl:ad415=ad417:=(by injection e417);have hn417_0:ad415.block≠gb416:=Nat.ne_of_lt (Nat.lt_of_lt_of_le (by have:=World.block_lt_of_cell? _ _ hx417_0;first|rwa [add_block] at this|exact this) GW416.out);have hn417_1:ad415.block≠gb416:=Nat.ne_of_lt (Nat.lt_of_lt_of_le (by have:=World.block_lt_of_cell? _ _ hx417_0;first|rwa [add_block] at this|exact this) GW416.out);replace hx417_0:=(HB.out.cell (World.block_lt_of_cell? w _ hx417_0)).trans hx417_0;replace hx417_1:=(HB.out.cell (World.block_lt_of_cell? w _ hx417_1)).trans hx417_1;replace hx417_0:=(cell_far (p:=⟨gb416,0,none⟩) (by first|(rw [add_block];exact hn417_0)|(show (Addr.add _ _).block≠_;rw [add_block];exact hn417_0)|exact hn417_0) (.int .i64 ((rd_T47 l1 x30_1).f0))).trans hx417_0;replace hx417_1:=(cell_far (p:=⟨gb416,0,none⟩) (by first|(rw [add_block];exact hn417_0)|(show (Addr.add _ _).block≠_;rw [add_block];exact hn417_0)|exact hn417_0) (.int .i64 ((rd_T47 l1 x30_1).f0))).trans hx417_1;replace hx417_0:=(cell_far (p:=⟨gb416,1,none⟩) (by first|(rw [add_block];exact hn417_1)|(show (Addr.add _ _).block≠_;rw [add_block];exact hn417_1)|exact hn417_1) (.int .i64 ((rd_T47 l1 x30_1).f1))).trans hx417_0;replace hx417_1:=(cell_far (p:=⟨gb416,1,none⟩) (by first|(rw [add_block];exact hn417_1)|(show (Addr.add _ _).block≠_;rw [add_block];exact hn417_1)|exact hn417_1) (.int .i64 ((rd_T47 l1 x30_1).f1))).trans hx417_1;clear hn417_0;clear hn417_1;replace p417:=eq_true p417;replace q417:=eq_true q417)|((with_reducible refine gate_dst (N:=15) rfl ?_);refine box_event ?hg (N:=15) ?hd (cs:=#[.int .i64 0,.int .i64 0]) (t:=47) ?hr ?_;(case hd=>rfl);(case hg=>rfl);(case hr=>first|(go_simp;done)|(go_simp;rfl));intro gb418 hg w23 hbox hb;have n0_:=aK (Kd.R_below (by (with_reducible repeat (first|apply Kd.R_alloc|apply Kd.R_drewN|apply Kd.R_drew));exact (Kd.R_mono (Kd.R_far (p:=⟨gb416,1,none⟩) (Kd.R_far (p:=⟨gb416,0,none⟩) (Kd.R_types HO_9.out BK416.out (by decide)) (fun _ hk=>hk.2) (.int .i64 ((rd_T47 l1 x30_1).f0))) (fun _ hk=>hk.2) (.int .i64 ((rd_T47 l1 x30_1).f1))) (fun _ h_=>h_.1))) hb);have n1_:=aK (blk_below (g:=gb416) (o:=.cells #[.int .i64 ((rd_T47 l1 x30_1).f0),.int .i64 ((rd_T47 l1 x30_1).f1)] 47 (0,0)) (by (with_reducible repeat (first|refine blk_drewN ?_ _|refine blk_drew ?_|refine blk_alloc ?_ _));refine blk_put (cs:=#[.int .i64 ((rd_T47 l1 x30_1).f0),.int .i64 0]) ?_ 1 _ rfl;(with_reducible repeat (first|refine blk_drewN ?_ _|refine blk_drew ?_|refine blk_alloc ?_ _));refine blk_put (cs:=#[.int .i64 0,.int .i64 0]) ?_ 0 _ rfl;(with_reducible repeat (first|refine blk_drewN ?_ _|refine blk_drew ?_|refine blk_alloc ?_ _));exact BK416.out) hb);have n2_:=aK (below_step (by repeat (first|(with_reducible first|exact HB.out|apply below_alloc|apply pw_below_drewN|apply below_drew1|refine below_set ?_ GE416.out)|exact HB.out)) hb);have n3_:=aK (hbox);have n4_:=aK ((by rw [hg];exact (below_size (by repeat (first|(with_reducible first|exact HB.out|apply below_alloc|apply pw_below_drewN|apply below_drew1|refine below_set ?_ GE416.out)|exact HB.out))):w.heap.size≤gb418));have n5_:=n4_;have n6_:=aK ((by rw [hg];exact Nat.ne_of_lt (blk_lt (g:=gb416) (o:=.cells #[.int .i64 ((rd_T47 l1 x30_1).f0),.int .i64 ((rd_T47 l1 x30_1).f1)] 47 (0,0)) (by (with_reducible repeat (first|refine blk_drewN ?_ _|refine blk_drew ?_|refine blk_alloc ?_ _));refine blk_put (cs:=#[.int .i64 ((rd_T47 l1 x30_1).f0),.int .i64 0]) ?_ 1 _ rfl;(with_reducible repeat (first|refine blk_drewN ?_ _|refine blk_drew ?_|refine blk_alloc ?_ _));refine blk_put (cs:=#[.int .i64 0,.int .i64 0]) ?_ 0 _ rfl;(with_reducible repeat (first|refine blk_drewN ?_ _|refine blk_drew ?_|refine blk_alloc ?_ _));exact BK416.out)):gb416≠gb418));have n7_:=aK (Ne.symm n6_.out);clear HO_9;clear BK416;clear HB;have HO_9:=n0_;have BK416:=n1_;have HB:=n2_;have BK418:=n3_;have GW418:=n4_;have GE418:=n5_;have NB416_418:=n6_;have NB418_416:=n7_;clear n0_ n1_ n2_ n3_ n4_ n5_ n6_ n7_;clear hb hbox hg;have hnb24:=NB418_416.out;have hnc24:=NB416_418.out;have hcz25_0:w23.cell? ⟨gb418,0,none⟩=some (.int .i64 0):=(blk_cell BK418.out 0).trans rfl;have hcz25_1:w23.cell? ⟨gb418,1,none⟩=some (.int .i64 0):=(blk_cell BK418.out 1).trans rfl;have hfz25_0:=blk_frozen BK418.out 0;have hfz25_1:=blk_frozen BK418.out 1))
          (try simp only [Act.put,lS])
          go_cut [69] (fun v69 wc=>∃ (kq:Nat) (x69_19:Bool),v69 = .bool x69_19∧Aside0 (scan_Covered.j1 kq l0 l1 x9_1 t403 t405 t411 l1 (l1.length:Int) x30_1 x69_19 ((rd_T47 l1 x30_1).f0) ((rd_T47 l1 x30_1).f1) ((rd_T47 l1 (ji17)).f0) ((rd_T47 l1 (ji17)).f1)=some r)∧Aside0 (kq≤k1)∧Aside0 (Kd.R Kd.bool 4 wc w.heap.size (fun _=>True) v401 x9_1)∧Aside0 (wc.heap[gb416]?=some (.cells #[.int .i64 ((rd_T47 l1 x30_1).f0),.int .i64 ((rd_T47 l1 x30_1).f1)] 47 (0,0)))∧Aside0 (wc.heap[gb418]?=some (.cells #[.int .i64 ((rd_T47 l1 (ji17)).f0),.int .i64 ((rd_T47 l1 (ji17)).f1)] 47 (0,0)))∧Aside0 (Below w.heap.size w wc))
          case first =>
           have H:=HC20.out
           clear HC20
           by_cases c26:x30_1=0
           ·rw [if_pos c26] at H
            have c26b0:(x30_1 == 0)=true:=beq_iff_eq.mpr c26
            have c26b1:(x30_1 != 0)=false:=bne_eq_false_iff_eq.mpr c26
            clear c26
            (first|rw [c26b0]|(simp only [i64_w,i32_w];rw [c26b0])|skip)
            by_cases c27:(l1.length:Int)>1
            ·rw [if_pos c27] at H
             have c27b0:decide (1<(l1.length:Int))=true:=decide_eq_true c27
             have c27b1:decide (1<l1.length)=true:=decide_eq_true (by omega)
             clear c27
             have H':=aK H
             clear H
             go_wp2
             go_meet
             case rel=>exact ⟨_,(true),(by first|rfl|(simp;done)|(simp [*];done)),H',⟨by have:=HK1.out;first|omega|exact Nat.le_refl _⟩,⟨by (with_reducible repeat (first|apply Kd.R_alloc|apply Kd.R_drewN|apply Kd.R_drew));exact Kd.R_mono (Kd.R_far (p:=⟨gb418,1,none⟩) (Kd.R_far (p:=⟨gb418,0,none⟩) (Kd.R_types HO_9.out BK418.out (by decide)) (fun _ hk=>hk.2) (.int .i64 ((rd_T47 l1 (ji17)).f0))) (fun _ hk=>hk.2) (.int .i64 ((rd_T47 l1 (ji17)).f1))) (fun _ hk=>trivial)⟩,⟨by (with_reducible repeat (first|refine blk_drewN ?_ _|refine blk_drew ?_|refine blk_alloc ?_ _));refine blk_far ?_ NB416_418.out _;(with_reducible repeat (first|refine blk_drewN ?_ _|refine blk_drew ?_|refine blk_alloc ?_ _));refine blk_far ?_ NB416_418.out _;(with_reducible repeat (first|refine blk_drewN ?_ _|refine blk_drew ?_|refine blk_alloc ?_ _));exact BK416.out⟩,⟨by (with_reducible repeat (first|refine blk_drewN ?_ _|refine blk_drew ?_|refine blk_alloc ?_ _));refine blk_put (cs:=#[.int .i64 ((rd_T47 l1 (ji17)).f0),.int .i64 0]) ?_ 1 _ rfl;(with_reducible repeat (first|refine blk_drewN ?_ _|refine blk_drew ?_|refine blk_alloc ?_ _));refine blk_put (cs:=#[.int .i64 0,.int .i64 0]) ?_ 0 _ rfl;(with_reducible repeat (first|refine blk_drewN ?_ _|refine blk_drew ?_|refine blk_alloc ?_ _));exact BK418.out⟩,⟨by repeat (first|(with_reducible first|exact HB.out|apply below_alloc|apply pw_below_drewN|apply below_drew1|refine below_set ?_ GE416.out|refine below_set ?_ GE418.out)|exact HB.out)⟩⟩
            ·rw [if_neg c27] at H
             have c27b0:decide (1<(l1.length:Int))=false:=decide_eq_false c27
             have c27b1:decide (1<l1.length)=false:=decide_eq_false (by omega)
             clear c27
             obtain ⟨ji28,hji28⟩ : ∃ j_:Int,(mn ((rd_T47 l1 (ji17)).f1) ((rd_T47 l1 x30_1).f1))=j_:=⟨_,rfl⟩
             replace H:(if (wrap64 ((ji28)+t405))>t403 then (scan_Covered.j1 k1 l0 l1 x9_1 t403 t405 t411 l1 (l1.length:Int) x30_1 true ((rd_T47 l1 x30_1).f0) ((rd_T47 l1 x30_1).f1) ((rd_T47 l1 (ji17)).f0) ((rd_T47 l1 (ji17)).f1)) else (scan_Covered.j1 k1 l0 l1 x9_1 t403 t405 t411 l1 (l1.length:Int) x30_1 (decide ((wrap64 ((mx ((rd_T47 l1 (ji17)).f1) ((rd_T47 l1 x30_1).f1))+t411))<t403)) ((rd_T47 l1 x30_1).f0) ((rd_T47 l1 x30_1).f1) ((rd_T47 l1 (ji17)).f0) ((rd_T47 l1 (ji17)).f1)))=some r:=by first|(rw [hji28] at H;exact H)|(simp only [hji28] at H ⊢;exact H)
             have hji28_:(if ((rd_T47 l1 x30_1).f1)<((rd_T47 l1 (ji17)).f1) then ((rd_T47 l1 x30_1).f1) else ((rd_T47 l1 (ji17)).f1))=ji28:=hji28
             by_cases c29:(wrap64 ((ji28)+t405))>t403
             ·rw [if_pos c29] at H
              have c29b0:decide (t403<(wrap64 ((ji28)+t405)))=true:=decide_eq_true c29
              clear c29
              have H':=aK H
              clear H
              have hnb30:=NB418_416.out
              have hnc30:=NB416_418.out
              have hcz31_0:w23.cell? ⟨gb418,0,none⟩=some (.int .i64 0):=(blk_cell BK418.out 0).trans rfl
              have hcz31_1:w23.cell? ⟨gb418,1,none⟩=some (.int .i64 0):=(blk_cell BK418.out 1).trans rfl
              have hfz31_0:=blk_frozen BK418.out 0
              have hfz31_1:=blk_frozen BK418.out 1
              have hcz32_0:w23.cell? ⟨gb416,0,none⟩=some (.int .i64 ((rd_T47 l1 x30_1).f0)):=(blk_cell BK416.out 0).trans rfl
              have hcz32_1:w23.cell? ⟨gb416,1,none⟩=some (.int .i64 ((rd_T47 l1 x30_1).f1)):=(blk_cell BK416.out 1).trans rfl
              have hfz32_0:=blk_frozen BK416.out 0
              have hfz32_1:=blk_frozen BK416.out 1
              go_wp2
              go_meet
              case rel=>exact ⟨_,(true),(by first|rfl|(simp;done)|(simp [*];done)),H',⟨by have:=HK1.out;first|omega|exact Nat.le_refl _⟩,⟨by (with_reducible repeat (first|apply Kd.R_alloc|apply Kd.R_drewN|apply Kd.R_drew));exact Kd.R_mono (Kd.R_far (p:=⟨gb418,1,none⟩) (Kd.R_far (p:=⟨gb418,0,none⟩) (Kd.R_types HO_9.out BK418.out (by decide)) (fun _ hk=>hk.2) (.int .i64 ((rd_T47 l1 (ji17)).f0))) (fun _ hk=>hk.2) (.int .i64 ((rd_T47 l1 (ji17)).f1))) (fun _ hk=>trivial)⟩,⟨by (with_reducible repeat (first|refine blk_drewN ?_ _|refine blk_drew ?_|refine blk_alloc ?_ _));refine blk_far ?_ NB416_418.out _;(with_reducible repeat (first|refine blk_drewN ?_ _|refine blk_drew ?_|refine blk_alloc ?_ _));refine blk_far ?_ NB416_418.out _;(with_reducible repeat (first|refine blk_drewN ?_ _|refine blk_drew ?_|refine blk_alloc ?_ _));exact BK416.out⟩,⟨by (with_reducible repeat (first|refine blk_drewN ?_ _|refine blk_drew ?_|refine blk_alloc ?_ _));refine blk_put (cs:=#[.int .i64 ((rd_T47 l1 (ji17)).f0),.int .i64 0]) ?_ 1 _ rfl;(with_reducible repeat (first|refine blk_drewN ?_ _|refine blk_drew ?_|refine blk_alloc ?_ _));refine blk_put (cs:=#[.int .i64 0,.int .i64 0]) ?_ 0 _ rfl;(with_reducible repeat (first|refine blk_drewN ?_ _|refine blk_drew ?_|refine blk_alloc ?_ _));exact BK418.out⟩,⟨by repeat (first|(with_reducible first|exact HB.out|apply below_alloc|apply pw_below_drewN|apply below_drew1|refine below_set ?_ GE416.out|refine below_set ?_ GE418.out)|exact HB.out)⟩⟩
             ·rw [if_neg c29] at H
              have c29b0:decide (t403<(wrap64 ((ji28)+t405)))=false:=decide_eq_false c29
              clear c29
              obtain ⟨ji33,hji33⟩ : ∃ j_:Int,(mx ((rd_T47 l1 (ji17)).f1) ((rd_T47 l1 x30_1).f1))=j_:=⟨_,rfl⟩
              replace H:(scan_Covered.j1 k1 l0 l1 x9_1 t403 t405 t411 l1 (l1.length:Int) x30_1 (decide ((wrap64 ((ji33)+t411))<t403)) ((rd_T47 l1 x30_1).f0) ((rd_T47 l1 x30_1).f1) ((rd_T47 l1 (ji17)).f0) ((rd_T47 l1 (ji17)).f1))=some r:=by first|(rw [hji33] at H;exact H)|(simp only [hji33] at H ⊢;exact H)
              have hji33_:(if ((rd_T47 l1 (ji17)).f1)<((rd_T47 l1 x30_1).f1) then ((rd_T47 l1 x30_1).f1) else ((rd_T47 l1 (ji17)).f1))=ji33:=hji33
              have H':=aK H
              clear H
              have hnb34:=NB418_416.out
              have hnc34:=NB416_418.out
              have hcz35_0:w23.cell? ⟨gb418,0,none⟩=some (.int .i64 0):=(blk_cell BK418.out 0).trans rfl
              have hcz35_1:w23.cell? ⟨gb418,1,none⟩=some (.int .i64 0):=(blk_cell BK418.out 1).trans rfl
              have hfz35_0:=blk_frozen BK418.out 0
              have hfz35_1:=blk_frozen BK418.out 1
              have hcz36_0:w23.cell? ⟨gb416,0,none⟩=some (.int .i64 ((rd_T47 l1 x30_1).f0)):=(blk_cell BK416.out 0).trans rfl
              have hcz36_1:w23.cell? ⟨gb416,1,none⟩=some (.int .i64 ((rd_T47 l1 x30_1).f1)):=(blk_cell BK416.out 1).trans rfl
              have hfz36_0:=blk_frozen BK416.out 0
              have hfz36_1:=blk_frozen BK416.out 1
              go_wp2
              go_meet
              case rel=>exact ⟨_,(decide ((wrap64 ((ji33)+t411))<t403)),(by first|rfl|(simp;done)|(simp only [← hji33] <;> (first|rfl|simp))|(simp [*];done)),H',⟨by have:=HK1.out;first|omega|exact Nat.le_refl _⟩,⟨by (with_reducible repeat (first|apply Kd.R_alloc|apply Kd.R_drewN|apply Kd.R_drew));exact Kd.R_mono (Kd.R_far (p:=⟨gb418,1,none⟩) (Kd.R_far (p:=⟨gb418,0,none⟩) (Kd.R_types HO_9.out BK418.out (by decide)) (fun _ hk=>hk.2) (.int .i64 ((rd_T47 l1 (ji17)).f0))) (fun _ hk=>hk.2) (.int .i64 ((rd_T47 l1 (ji17)).f1))) (fun _ hk=>trivial)⟩,⟨by (with_reducible repeat (first|refine blk_drewN ?_ _|refine blk_drew ?_|refine blk_alloc ?_ _));refine blk_far ?_ NB416_418.out _;(with_reducible repeat (first|refine blk_drewN ?_ _|refine blk_drew ?_|refine blk_alloc ?_ _));refine blk_far ?_ NB416_418.out _;(with_reducible repeat (first|refine blk_drewN ?_ _|refine blk_drew ?_|refine blk_alloc ?_ _));exact BK416.out⟩,⟨by (with_reducible repeat (first|refine blk_drewN ?_ _|refine blk_drew ?_|refine blk_alloc ?_ _));refine blk_put (cs:=#[.int .i64 ((rd_T47 l1 (ji17)).f0),.int .i64 0]) ?_ 1 _ rfl;(with_reducible repeat (first|refine blk_drewN ?_ _|refine blk_drew ?_|refine blk_alloc ?_ _));refine blk_put (cs:=#[.int .i64 0,.int .i64 0]) ?_ 0 _ rfl;(with_reducible repeat (first|refine blk_drewN ?_ _|refine blk_drew ?_|refine blk_alloc ?_ _));exact BK418.out⟩,⟨by repeat (first|(with_reducible first|exact HB.out|apply below_alloc|apply pw_below_drewN|apply below_drew1|refine below_set ?_ GE416.out|refine below_set ?_ GE418.out)|exact HB.out)⟩⟩
           ·rw [if_neg c26] at H
            have c26b0:(x30_1 == 0)=false:=beq_eq_false_iff_ne.mpr c26
            have c26b1:(x30_1 != 0)=true:=bne_iff_ne.mpr c26
            (first|rw [c26b0]|(simp only [i64_w,i32_w];rw [c26b0])|skip)
            obtain ⟨ji37,hji37⟩ : ∃ j_:Int,(mn ((rd_T47 l1 (ji17)).f1) ((rd_T47 l1 x30_1).f1))=j_:=⟨_,rfl⟩
            replace H:(if (wrap64 ((ji37)+t405))>t403 then (scan_Covered.j1 k1 l0 l1 x9_1 t403 t405 t411 l1 (l1.length:Int) x30_1 true ((rd_T47 l1 x30_1).f0) ((rd_T47 l1 x30_1).f1) ((rd_T47 l1 (ji17)).f0) ((rd_T47 l1 (ji17)).f1)) else (scan_Covered.j1 k1 l0 l1 x9_1 t403 t405 t411 l1 (l1.length:Int) x30_1 (decide ((wrap64 ((mx ((rd_T47 l1 (ji17)).f1) ((rd_T47 l1 x30_1).f1))+t411))<t403)) ((rd_T47 l1 x30_1).f0) ((rd_T47 l1 x30_1).f1) ((rd_T47 l1 (ji17)).f0) ((rd_T47 l1 (ji17)).f1)))=some r:=by first|(rw [hji37] at H;exact H)|(simp only [hji37] at H ⊢;exact H)
            have hji37_:(if ((rd_T47 l1 x30_1).f1)<((rd_T47 l1 (ji17)).f1) then ((rd_T47 l1 x30_1).f1) else ((rd_T47 l1 (ji17)).f1))=ji37:=hji37
            by_cases c38:(wrap64 ((ji37)+t405))>t403
            ·rw [if_pos c38] at H
             have c38b0:decide (t403<(wrap64 ((ji37)+t405)))=true:=decide_eq_true c38
             clear c38
             have H':=aK H
             clear H
             have hnb39:=NB418_416.out
             have hnc39:=NB416_418.out
             have hcz40_0:w23.cell? ⟨gb418,0,none⟩=some (.int .i64 0):=(blk_cell BK418.out 0).trans rfl
             have hcz40_1:w23.cell? ⟨gb418,1,none⟩=some (.int .i64 0):=(blk_cell BK418.out 1).trans rfl
             have hfz40_0:=blk_frozen BK418.out 0
             have hfz40_1:=blk_frozen BK418.out 1
             have hcz41_0:w23.cell? ⟨gb416,0,none⟩=some (.int .i64 ((rd_T47 l1 x30_1).f0)):=(blk_cell BK416.out 0).trans rfl
             have hcz41_1:w23.cell? ⟨gb416,1,none⟩=some (.int .i64 ((rd_T47 l1 x30_1).f1)):=(blk_cell BK416.out 1).trans rfl
             have hfz41_0:=blk_frozen BK416.out 0
             have hfz41_1:=blk_frozen BK416.out 1
             go_wp2
             go_meet
             case rel=>exact ⟨_,(true),(by first|rfl|(simp;done)|(simp [*];done)),H',⟨by have:=HK1.out;first|omega|exact Nat.le_refl _⟩,⟨by (with_reducible repeat (first|apply Kd.R_alloc|apply Kd.R_drewN|apply Kd.R_drew));exact Kd.R_mono (Kd.R_far (p:=⟨gb418,1,none⟩) (Kd.R_far (p:=⟨gb418,0,none⟩) (Kd.R_types HO_9.out BK418.out (by decide)) (fun _ hk=>hk.2) (.int .i64 ((rd_T47 l1 (ji17)).f0))) (fun _ hk=>hk.2) (.int .i64 ((rd_T47 l1 (ji17)).f1))) (fun _ hk=>trivial)⟩,⟨by (with_reducible repeat (first|refine blk_drewN ?_ _|refine blk_drew ?_|refine blk_alloc ?_ _));refine blk_far ?_ NB416_418.out _;(with_reducible repeat (first|refine blk_drewN ?_ _|refine blk_drew ?_|refine blk_alloc ?_ _));refine blk_far ?_ NB416_418.out _;(with_reducible repeat (first|refine blk_drewN ?_ _|refine blk_drew ?_|refine blk_alloc ?_ _));exact BK416.out⟩,⟨by (with_reducible repeat (first|refine blk_drewN ?_ _|refine blk_drew ?_|refine blk_alloc ?_ _));refine blk_put (cs:=#[.int .i64 ((rd_T47 l1 (ji17)).f0),.int .i64 0]) ?_ 1 _ rfl;(with_reducible repeat (first|refine blk_drewN ?_ _|refine blk_drew ?_|refine blk_alloc ?_ _));refine blk_put (cs:=#[.int .i64 0,.int .i64 0]) ?_ 0 _ rfl;(with_reducible repeat (first|refine blk_drewN ?_ _|refine blk_drew ?_|refine blk_alloc ?_ _));exact BK418.out⟩,⟨by repeat (first|(with_reducible first|exact HB.out|apply below_alloc|apply pw_below_drewN|apply below_drew1|refine below_set ?_ GE416.out|refine below_set ?_ GE418.out)|exact HB.out)⟩⟩
            ·rw [if_neg c38] at H
             have c38b0:decide (t403<(wrap64 ((ji37)+t405)))=false:=decide_eq_false c38
             clear c38
             obtain ⟨ji42,hji42⟩ : ∃ j_:Int,(mx ((rd_T47 l1 (ji17)).f1) ((rd_T47 l1 x30_1).f1))=j_:=⟨_,rfl⟩
             replace H:(scan_Covered.j1 k1 l0 l1 x9_1 t403 t405 t411 l1 (l1.length:Int) x30_1 (decide ((wrap64 ((ji42)+t411))<t403)) ((rd_T47 l1 x30_1).f0) ((rd_T47 l1 x30_1).f1) ((rd_T47 l1 (ji17)).f0) ((rd_T47 l1 (ji17)).f1))=some r:=by first|(rw [hji42] at H;exact H)|(simp only [hji42] at H ⊢;exact H)
             have hji42_:(if ((rd_T47 l1 (ji17)).f1)<((rd_T47 l1 x30_1).f1) then ((rd_T47 l1 x30_1).f1) else ((rd_T47 l1 (ji17)).f1))=ji42:=hji42
             have H':=aK H
             clear H
             have hnb43:=NB418_416.out
             have hnc43:=NB416_418.out
             have hcz44_0:w23.cell? ⟨gb418,0,none⟩=some (.int .i64 0):=(blk_cell BK418.out 0).trans rfl
             have hcz44_1:w23.cell? ⟨gb418,1,none⟩=some (.int .i64 0):=(blk_cell BK418.out 1).trans rfl
             have hfz44_0:=blk_frozen BK418.out 0
             have hfz44_1:=blk_frozen BK418.out 1
             have hcz45_0:w23.cell? ⟨gb416,0,none⟩=some (.int .i64 ((rd_T47 l1 x30_1).f0)):=(blk_cell BK416.out 0).trans rfl
             have hcz45_1:w23.cell? ⟨gb416,1,none⟩=some (.int .i64 ((rd_T47 l1 x30_1).f1)):=(blk_cell BK416.out 1).trans rfl
             have hfz45_0:=blk_frozen BK416.out 0
             have hfz45_1:=blk_frozen BK416.out 1
             go_wp2
             go_meet
             case rel=>exact ⟨_,(decide ((wrap64 ((ji42)+t411))<t403)),(by first|rfl|(simp;done)|(simp only [← hji42] <;> (first|rfl|simp))|(simp [*];done)),H',⟨by have:=HK1.out;first|omega|exact Nat.le_refl _⟩,⟨by (with_reducible repeat (first|apply Kd.R_alloc|apply Kd.R_drewN|apply Kd.R_drew));exact Kd.R_mono (Kd.R_far (p:=⟨gb418,1,none⟩) (Kd.R_far (p:=⟨gb418,0,none⟩) (Kd.R_types HO_9.out BK418.out (by decide)) (fun _ hk=>hk.2) (.int .i64 ((rd_T47 l1 (ji17)).f0))) (fun _ hk=>hk.2) (.int .i64 ((rd_T47 l1 (ji17)).f1))) (fun _ hk=>trivial)⟩,⟨by (with_reducible repeat (first|refine blk_drewN ?_ _|refine blk_drew ?_|refine blk_alloc ?_ _));refine blk_far ?_ NB416_418.out _;(with_reducible repeat (first|refine blk_drewN ?_ _|refine blk_drew ?_|refine blk_alloc ?_ _));refine blk_far ?_ NB416_418.out _;(with_reducible repeat (first|refine blk_drewN ?_ _|refine blk_drew ?_|refine blk_alloc ?_ _));exact BK416.out⟩,⟨by (with_reducible repeat (first|refine blk_drewN ?_ _|refine blk_drew ?_|refine blk_alloc ?_ _));refine blk_put (cs:=#[.int .i64 ((rd_T47 l1 (ji17)).f0),.int .i64 0]) ?_ 1 _ rfl;(with_reducible repeat (first|refine blk_drewN ?_ _|refine blk_drew ?_|refine blk_alloc ?_ _));refine blk_put (cs:=#[.int .i64 0,.int .i64 0]) ?_ 0 _ rfl;(with_reducible repeat (first|refine blk_drewN ?_ _|refine blk_drew ?_|refine blk_alloc ?_ _));exact BK418.out⟩,⟨by repeat (first|(with_reducible first|exact HB.out|apply below_alloc|apply pw_below_drewN|apply below_drew1|refine below_set ?_ GE416.out|refine below_set ?_ GE418.out)|exact HB.out)⟩⟩
          case rest =>
           clear HC20
           try clear c1
           try clear c2
           try clear p2
           try clear c3
           try clear c4
           try clear p4
           try clear q4
           try clear hx4
           try clear c5
           try clear c5b0
           try clear c5b1
           try clear c6
           try clear c6b0
           try clear c6b1
           try clear p6
           try clear c8
           try clear c14
           try clear c14b0
           try clear c15
           try clear c15b0
           try clear c16
           try clear c16b0
           try clear c18
           try clear c18b0
           try clear c19
           try clear c19b0
           try clear c24
           try clear c26
           try clear c26b0
           try clear c26b1
           try clear c27
           try clear c27b0
           try clear c27b1
           try clear c29
           try clear c29b0
           try clear c30
           try clear c34
           try clear c38
           try clear c38b0
           try clear c39
           try clear p41
           try clear q41
           try clear hx41
           try clear c43
           try clear c44
           try clear hcz22_0
           try clear hcz22_1
           try clear hcz25_0
           try clear hcz25_1
           try clear hcz31_0
           try clear hcz31_1
           try clear hcz32_0
           try clear hcz32_1
           try clear hcz35_0
           try clear hcz35_1
           try clear hcz36_0
           try clear hcz36_1
           try clear hcz40_0
           try clear hcz40_1
           try clear hcz41_0
           try clear hcz41_1
           try clear hcz44_0
           try clear hcz44_1
           try clear hcz45_0
           try clear hcz45_1
           try clear hfz22_0
           try clear hfz22_1
           try clear hfz25_0
           try clear hfz25_1
           try clear hfz31_0
           try clear hfz31_1
           try clear hfz32_0
           try clear hfz32_1
           try clear hfz35_0
           try clear hfz35_1
           try clear hfz36_0
           try clear hfz36_1
           try clear hfz40_0
           try clear hfz40_1
           try clear hfz41_0
           try clear hfz41_1
           try clear hfz44_0
           try clear hfz44_1
           try clear hfz45_0
           try clear hfz45_1
           try clear hx415_0
           try clear hx415_1
           try clear hx417_0
           try clear hx417_1
           try clear p2
           try clear p415
           try clear p417
           try clear q415
           try clear q417
           obtain ⟨kq,x69_19,rfl,HA,HJ19,HO_9,BK416,BK418,HB⟩:=hcut
           cases kq with
           | zero=>exact absurd HA.out (by simp [scan_Covered.j1])
           | succ kj19 =>
            have H:=HA.out
            clear HA
            simp only [scan_Covered.j1] at H
            by_cases c46:x69_19=true
            ·subst c46
             have H1:(scan_Covered.l0 kj19 l0 l1 x9_1 t403 t405 t411 l1 (l1.length:Int) (wrap64 (x30_1+1)))=some r:=by rw [if_pos rfl] at H;exact H
             clear H
             have H:=H1
             clear H1
             have H':=aK H
             clear H
             go_wp2
             go_roundg kj19
             case measure=>have:=HK1.out;have:=HJ19.out;omega
             case rel=>exact ⟨(x9_1),(wrap64 (x30_1+1)),(by first|rfl|(simp;done)|(simp [*];done)),H',⟨by have:=HK1.out;have:=HJ19.out;omega⟩,⟨by (with_reducible repeat (first|apply Kd.R_alloc|apply Kd.R_drewN|apply Kd.R_drew));exact HO_9.out⟩,⟨by repeat (first|(with_reducible first|exact HB.out|apply below_alloc|apply pw_below_drewN|apply below_drew1|refine below_set ?_ GE416.out|refine below_set ?_ GE418.out)|exact HB.out)⟩⟩
            ·replace c46:=Bool.eq_false_iff.mpr c46
             subst c46
             have H1:((pen_Swept.f kj19 l0 ((rd_T47 l1 (ji17)).f0) ((rd_T47 l1 (ji17)).f1) ((rd_T47 l1 x30_1).f0) ((rd_T47 l1 x30_1).f1)).bind fun t419=>((scan_cover.f kj19 t419 t403 x9_1).bind fun t422=>(scan_Covered.l0 kj19 l0 l1 t422 t403 t405 t411 l1 (l1.length:Int) (wrap64 (x30_1+1)))))=some r:=by rw [if_neg (show ¬ (false=true) by decide)] at H;exact H
             clear H
             have H:=H1
             clear H1
             replace H:=Option.bind_eq_some_iff.mp H
             obtain ⟨t419,A470,H⟩:=H
             replace H:((scan_cover.f kj19 t419 t403 x9_1).bind fun t422=>(scan_Covered.l0 kj19 l0 l1 t422 t403 t405 t411 l1 (l1.length:Int) (wrap64 (x30_1+1))))=some r:=H
             have A47:=aK A470
             clear A470
             replace H:=Option.bind_eq_some_iff.mp H
             obtain ⟨t422,A480,H⟩:=H
             replace H:(scan_Covered.l0 kj19 l0 l1 t422 t403 t405 t411 l1 (l1.length:Int) (wrap64 (x30_1+1)))=some r:=H
             have A48:=aK A480
             clear A480
             have H':=aK H
             clear H
             have hnb49:=NB418_416.out
             have hnc49:=NB416_418.out
             have hcz50_0:wc.cell? ⟨gb418,0,none⟩=some (.int .i64 ((rd_T47 l1 (ji17)).f0)):=(blk_cell BK418.out 0).trans rfl
             have hcz50_1:wc.cell? ⟨gb418,1,none⟩=some (.int .i64 ((rd_T47 l1 (ji17)).f1)):=(blk_cell BK418.out 1).trans rfl
             have hfz50_0:=blk_frozen BK418.out 0
             have hfz50_1:=blk_frozen BK418.out 1
             have hcz51_0:wc.cell? ⟨gb416,0,none⟩=some (.int .i64 ((rd_T47 l1 x30_1).f0)):=(blk_cell BK416.out 0).trans rfl
             have hcz51_1:wc.cell? ⟨gb416,1,none⟩=some (.int .i64 ((rd_T47 l1 x30_1).f1)):=(blk_cell BK416.out 1).trans rfl
             have hfz51_0:=blk_frozen BK416.out 0
             have hfz51_1:=blk_frozen BK416.out 1
             go_wp2_with (first|((with_reducible refine gate_callee (f:=83) rfl ?_);refine goesL_ (some 73) rfl rfl Tryz.func83 (by kernel_rfl) rfl #[.slice A0 l0.length c0,.agg #[.int .i64 ((rd_T47 l1 (ji17)).f0),.int .i64 ((rd_T47 l1 (ji17)).f1)],.agg #[.int .i64 ((rd_T47 l1 x30_1).f0),.int .i64 ((rd_T47 l1 x30_1).f1)]] rfl (by (try simp only [List.map_toArray,List.map_cons,List.map_nil]);first|done|(simp only [hji17];rfl)|rfl|(simp only [List.length_drop,List.length_take];rfl)) ?_;(with_reducible refine (pen_Swept.calls kj19 _ _ l0 ((rd_T47 l1 (ji17)).f0) ((rd_T47 l1 (ji17)).f1) ((rd_T47 l1 x30_1).f0) ((rd_T47 l1 x30_1).f1) t419 _ ?side1 ?side2 A47.out).mono ?_);(case side1=>repeat (first|exact (Kd.C_below HR0.out HB.out)|(with_reducible refine Kd.C_alloc ?_ _)|(with_reducible refine Kd.C_drewN ?_ _)|(with_reducible refine Kd.C_drew ?_)));(case side2=>exact HC0.out);rintro e w52 ⟨v420,rfl,ho0,hb⟩;refine ⟨_,rfl,?_⟩;have n0_:=aK (Kd.R_below (by (with_reducible repeat (first|apply Kd.R_alloc|apply Kd.R_drewN|apply Kd.R_drew));exact HO_9.out) hb);have n1_:=aK (Kd.R_lower (Kd.R_newB (Kd.R_newB ho0 (g:=gb416) (o:=.cells #[.int .i64 ((rd_T47 l1 x30_1).f0),.int .i64 ((rd_T47 l1 x30_1).f1)] 47 (0,0)) (by (with_reducible repeat (first|refine blk_drewN ?_ _|refine blk_drew ?_|refine blk_alloc ?_ _));exact BK416.out)) (g:=gb418) (o:=.cells #[.int .i64 ((rd_T47 l1 (ji17)).f0),.int .i64 ((rd_T47 l1 (ji17)).f1)] 47 (0,0)) (by (with_reducible repeat (first|refine blk_drewN ?_ _|refine blk_drew ?_|refine blk_alloc ?_ _));exact BK418.out)) (below_size (by repeat (first|(with_reducible first|exact HB.out|apply below_alloc|apply pw_below_drewN|apply below_drew1|refine below_set ?_ GE416.out|refine below_set ?_ GE418.out)|exact HB.out))));have n2_:=aK (blk_below (g:=gb416) (o:=.cells #[.int .i64 ((rd_T47 l1 x30_1).f0),.int .i64 ((rd_T47 l1 x30_1).f1)] 47 (0,0)) (by (with_reducible repeat (first|refine blk_drewN ?_ _|refine blk_drew ?_|refine blk_alloc ?_ _));exact BK416.out) hb);have n3_:=aK (blk_below (g:=gb418) (o:=.cells #[.int .i64 ((rd_T47 l1 (ji17)).f0),.int .i64 ((rd_T47 l1 (ji17)).f1)] 47 (0,0)) (by (with_reducible repeat (first|refine blk_drewN ?_ _|refine blk_drew ?_|refine blk_alloc ?_ _));exact BK418.out) hb);have n4_:=aK (below_step (by repeat (first|(with_reducible first|exact HB.out|apply below_alloc|apply pw_below_drewN|apply below_drew1|refine below_set ?_ GE416.out|refine below_set ?_ GE418.out)|exact HB.out)) hb);clear HO_9;clear BK416;clear BK418;clear HB;have HO_9:=n0_;have HO421:=n1_;have BK416:=n2_;have BK418:=n3_;have HB:=n4_;clear n0_ n1_ n2_ n3_ n4_;(try clear hb);(try clear hb2);(try clear hk);(try clear hi);(try clear ho0);obtain ⟨Ao53,co53,eo53⟩:=Kd.R_slice HO421.out;subst eo53;obtain ⟨Ao54,co54,eo54⟩:=Kd.R_slice HO_9.out;subst eo54)|((with_reducible refine gate_callee (f:=82) rfl ?_);refine goesL_ (some 76) rfl rfl Tryz.func82 (by kernel_rfl) rfl #[.slice Ao53 t419.length co53,.int .i64 t403,.slice Ao54 x9_1.length co54] rfl (by (try simp only [List.map_toArray,List.map_cons,List.map_nil]);first|done|rfl|(simp only [List.length_drop,List.length_take];rfl)) ?_;(with_reducible refine (scan_cover.calls kj19 _ _ t419 t403 (fun k_=>some k_=(.slice Ao54 x9_1.length co54:Value).ownBlock) (.slice Ao54 x9_1.length co54) x9_1 t422 w _ ?side1 ?side2 ?side3 ?side4 A48.out).mono ?_);(case side1=>repeat (first|(with_reducible first|exact HB.out|apply below_alloc|apply pw_below_drewN|apply below_drew1|refine below_set ?_ GE416.out|refine below_set ?_ GE418.out)|exact HB.out));(case side2=>exact Kd.C_kept_own ((Kd.R_apart' HO421.out (Kd.R_typed HO_9.out) (by decide))) (fun k_ hk_ hs_=>(hk_.2) hs_));(case side3=>exact (Kd.R_reads' HO421.out).2.1);(case side4=>exact Kd.R_tight rfl HO_9.out);rintro e w55 ⟨rfl,hy0,hb,hkp⟩;refine ⟨_,rfl,?_⟩;have n0_:=aK (Kd.R_reok rfl hy0 (fun k_ e_=>HO_9.out.1 k_ e_));have n1_:=aK (blk_kept (by (with_reducible repeat (first|refine blk_drewN ?_ _|refine blk_drew ?_|refine blk_alloc ?_ _));exact BK416.out) hkp (fun hs_=>(fun e_=>(Kd.R_ne HO_9.out BK416.out (by decide)) e_) hs_));have n2_:=aK (blk_kept (by (with_reducible repeat (first|refine blk_drewN ?_ _|refine blk_drew ?_|refine blk_alloc ?_ _));exact BK418.out) hkp (fun hs_=>(fun e_=>(Kd.R_ne HO_9.out BK418.out (by decide)) e_) hs_));have n3_:=aK (Kd.R_mono (ok':=fun k_=>k_≠gb416∧k_≠gb418) (Kd.R_keptB ((Kd.R_apart' HO421.out (Kd.R_typed HO_9.out) (by decide))) hkp (fun k_ hk_ hs_=>(hk_.2) hs_)) (fun k_ hk_=>⟨hk_.1.1.1.2,hk_.1.1.2⟩));have n4_:=aK (hb);clear HO_9;clear BK416;clear BK418;clear HO421;clear HB;have HO_9:=n0_;have BK416:=n1_;have BK418:=n2_;have HO421:=n3_;have HB:=n4_;clear n0_ n1_ n2_ n3_ n4_;(try clear hb);(try clear hkp);(try clear hy0)))
             go_roundg kj19
             case measure=>have:=HK1.out;have:=HJ19.out;omega
             case rel=>exact ⟨(t422),(wrap64 (x30_1+1)),(by first|rfl|(simp;done)|(simp [*];done)),H',⟨by have:=HK1.out;have:=HJ19.out;omega⟩,⟨by (with_reducible repeat (first|apply Kd.R_alloc|apply Kd.R_drewN|apply Kd.R_drew));exact HO_9.out⟩,⟨by repeat (first|(with_reducible first|exact HB.out|apply below_alloc|apply pw_below_drewN|apply below_drew1|refine below_set ?_ GE416.out|refine below_set ?_ GE418.out)|exact HB.out)⟩⟩
         ·rw [if_neg c19] at H
          exact absurd H (by simp)
        ·rw [if_neg c18] at H
         exact absurd H (by simp)
       ·rw [if_neg c16] at H
        exact absurd H (by simp)
      ·rw [if_neg c15] at H
       exact absurd H (by simp)
     ·rw [if_neg c14] at H
      have c14b0:decide (x30_1<(l1.length:Int))=false:=decide_eq_false c14
      clear c14
      replace H:=Option.bind_eq_some_iff.mp H
      obtain ⟨t412,A560,H⟩:=H
      replace H:(some t412)=some r:=H
      have A56:=aK A560
      clear A560
      obtain rfl:=Option.some.inj H
      obtain ⟨Ao57,co57,eo57⟩:=Kd.R_slice HO_9.out
      subst eo57
      go_wp2_with ((with_reducible refine gate_callee (f:=74) rfl ?_);refine goesL_ (some 79) rfl rfl Tryz.func74 (by kernel_rfl) rfl #[.slice Ao57 x9_1.length co57] rfl (by (try simp only [List.map_toArray,List.map_cons,List.map_nil]);first|done|rfl|(simp only [List.length_drop,List.length_take];rfl)) ?_;(with_reducible refine (scan_spans.calls k1 _ _ x9_1 t412 _ ?side1 ?side2 A56.out).mono ?_);(case side1=>repeat (first|exact (Kd.R_reads' HO_9.out).2.2|(with_reducible refine Kd.C_alloc ?_ _)|(with_reducible refine Kd.C_drewN ?_ _)|(with_reducible refine Kd.C_drew ?_)));(case side2=>exact (Kd.R_reads' HO_9.out).2.1);rintro e w58 ⟨v413,rfl,ho0,hb⟩;refine ⟨_,rfl,?_⟩;have n0_:=aK (Kd.R_below (by (with_reducible repeat (first|apply Kd.R_alloc|apply Kd.R_drewN|apply Kd.R_drew));exact HO_9.out) hb);have n1_:=aK (Kd.R_lower ho0 (below_size (by repeat (first|(with_reducible first|exact HB.out|apply below_alloc|apply pw_below_drewN|apply below_drew1)|exact HB.out))));have n2_:=aK (below_step (by repeat (first|(with_reducible first|exact HB.out|apply below_alloc|apply pw_below_drewN|apply below_drew1)|exact HB.out)) hb);clear HO_9;clear HB;have HO_9:=n0_;have HO414:=n1_;have HB:=n2_;clear n0_ n1_ n2_;(try clear hb);(try clear hb2);(try clear hk);(try clear hi);(try clear ho0))
      go_ret
      exact ⟨_,by first|rfl|(simp [errW_none,errW_some] <;> rfl)|(simp [*,errW_none,errW_some] <;> rfl),by (with_reducible repeat (first|apply Kd.R_alloc|apply Kd.R_drewN|apply Kd.R_drew));exact HO414.out,by repeat (first|(with_reducible first|exact HB.out|apply below_alloc|apply pw_below_drewN|apply below_drew1)|exact HB.out)⟩
  ·rw [if_neg c6] at H
   exact absurd H (by simp)
 ·rw [if_neg c5] at H
  exact absurd H (by simp)
end Go.Proofs.YtckjlckhjcbddaaGreat.PG3
