import Derived.Test.YtckjlckhjcbddaaPH3x0
import Derived.Test.YtckjlckhjcbddaaPH3x3
import Derived.Test.YtckjlckhjcbddaaPH3x4
import Derived.Test.YtckjlckhjcbddaaPH3x6
import Derived.Test.YtckjlckhjcbddaaPH3x7
import Derived.Test.YtckjlckhjcbddaaPH3x8
import Derived.Test.YtckjlckhjcbddaaPH3x10
set_option maxRecDepth 100000
namespace Go.Proofs.Ytckjlckhjcbddaa.PH3
open Go.RowKit Go.Proofs.YtckjlckhjcbddaaW.PrintWords Go.Proofs.YtckjlckhjcbddaaW.PrintLast Go.Proofs.YtckjlckhjcbddaaW.PrintMore
attribute [local go_sem] max2_int min2_int max_two min_two max_three min_three max_four min_four
private theorem run_ix72_0 (w:World) (a b c d:Value):(Instr.index 72 (.agg #[a,b,c,d]) (.int .i64 0)).run Try.prog w = .ok (.agg #[a,b]) w:=by
 simp [Instr.index,go_sem,Try.isAgg31,Try.sizeOf31]
private theorem run_ix72_1 (w:World) (a b c d:Value):(Instr.index 72 (.agg #[a,b,c,d]) (.int .i64 1)).run Try.prog w = .ok (.agg #[c,d]) w:=by
 simp [Instr.index,go_sem,Try.isAgg31,Try.sizeOf31]
private theorem run_fd31_0 (w:World) (a b:Value):(Instr.field 31 (.agg #[a,b]) 0).run Try.prog w = .ok a w:=by
 simp [Instr.field,go_sem,asAgg,Try.isAgg3,Try.sizeOf3]
private theorem run_fd31_1 (w:World) (a b:Value):(Instr.field 31 (.agg #[a,b]) 1).run Try.prog w = .ok b w:=by
 simp [Instr.field,go_sem,asAgg,Try.isAgg3,Try.sizeOf3]
attribute [local go_sem high] run_ix72_0 run_ix72_1 run_fd31_0 run_fd31_1
set_option linter.unusedVariables false
set_option linter.unusedSimpArgs false
mutual
def scan_Covered.l0 : Nat → List (S31) → List (S31) → List Bool → Int → Int → Int → List (S31) → Int → Int → Option ((List (S36)))
 | 0,_,_,_,_,_,_,_,_,_=>none
 | k+1,x0,x1,x9,x10,x11,x12,x28,x29,x30=>if x30<x29 then (if 0≤x30 then (if x30<(x28.length:Int) then (if 0≤(mx (wrap64 (x30-1)) 0) then (if (mx (wrap64 (x30-1)) 0)<(x1.length:Int) then (if x30=0 then (if (x1.length:Int)>1 then (scan_Covered.j1 k x0 x1 x9 x10 x11 x12 x28 x29 x30 true ((rd_T31 x28 x30).f0) ((rd_T31 x28 x30).f1) ((rd_T31 x1 (mx (wrap64 (x30-1)) 0)).f0) ((rd_T31 x1 (mx (wrap64 (x30-1)) 0)).f1)) else (if (wrap64 ((mn ((rd_T31 x1 (mx (wrap64 (x30-1)) 0)).f1) ((rd_T31 x28 x30).f1))+x11))>x10 then (scan_Covered.j1 k x0 x1 x9 x10 x11 x12 x28 x29 x30 true ((rd_T31 x28 x30).f0) ((rd_T31 x28 x30).f1) ((rd_T31 x1 (mx (wrap64 (x30-1)) 0)).f0) ((rd_T31 x1 (mx (wrap64 (x30-1)) 0)).f1)) else (scan_Covered.j1 k x0 x1 x9 x10 x11 x12 x28 x29 x30 (decide ((wrap64 ((mx ((rd_T31 x1 (mx (wrap64 (x30-1)) 0)).f1) ((rd_T31 x28 x30).f1))+x12))<x10)) ((rd_T31 x28 x30).f0) ((rd_T31 x28 x30).f1) ((rd_T31 x1 (mx (wrap64 (x30-1)) 0)).f0) ((rd_T31 x1 (mx (wrap64 (x30-1)) 0)).f1)))) else (if (wrap64 ((mn ((rd_T31 x1 (mx (wrap64 (x30-1)) 0)).f1) ((rd_T31 x28 x30).f1))+x11))>x10 then (scan_Covered.j1 k x0 x1 x9 x10 x11 x12 x28 x29 x30 true ((rd_T31 x28 x30).f0) ((rd_T31 x28 x30).f1) ((rd_T31 x1 (mx (wrap64 (x30-1)) 0)).f0) ((rd_T31 x1 (mx (wrap64 (x30-1)) 0)).f1)) else (scan_Covered.j1 k x0 x1 x9 x10 x11 x12 x28 x29 x30 (decide ((wrap64 ((mx ((rd_T31 x1 (mx (wrap64 (x30-1)) 0)).f1) ((rd_T31 x28 x30).f1))+x12))<x10)) ((rd_T31 x28 x30).f0) ((rd_T31 x28 x30).f1) ((rd_T31 x1 (mx (wrap64 (x30-1)) 0)).f0) ((rd_T31 x1 (mx (wrap64 (x30-1)) 0)).f1)))) else (none)) else (none)) else (none)) else (none)) else ((scan_spans.f k x9).bind fun t208=>(some t208))
def scan_Covered.j1 : Nat → List (S31) → List (S31) → List Bool → Int → Int → Int → List (S31) → Int → Int → Bool → Int → Int → Int → Int → Option ((List (S36)))
 | 0,_,_,_,_,_,_,_,_,_,_,_,_,_,_=>none
 | k+1,x0,x1,x9,x10,x11,x12,x28,x29,x30,x69,x213000,x213001,x215000,x215001=>if x69=true then (scan_Covered.l0 k x0 x1 x9 x10 x11 x12 x28 x29 (wrap64 (x30+1))) else ((pen_Swept.f k x0 x215000 x215001 x213000 x213001).bind fun t215=>((scan_cover.f k t215 x10 x9).bind fun t218=>(scan_Covered.l0 k x0 x1 t218 x10 x11 x12 x28 x29 (wrap64 (x30+1)))))
end
def scan_Covered.f (k:Nat) (l0:List (S31)) (l1:List (S31)) (a2:Int) (a3:Int):Option ((List (S36))):=if 0≤a2 then (if (a2:Int).toNat≤281474976710656 then ((scan_middle.f a3).bind fun t199=>((flat_Bounds.f l0).bind fun bt200=>((flat_Bounds.f l0).bind fun bt204=>(scan_Covered.l0 k l0 l1 (List.replicate (a2:Int).toNat false) t199 bt200.2.1 bt204.2.2.2 l1 (l1.length:Int) 0)))) else (none)) else (none)
theorem scan_Covered.mono_l : ∀ k, (∀ y0 y1 y2 y3 y4 y5 y6 y7 y8, LeO (scan_Covered.l0 k y0 y1 y2 y3 y4 y5 y6 y7 y8) (scan_Covered.l0 (k + 1) y0 y1 y2 y3 y4 y5 y6 y7 y8)) ∧ (∀ y0 y1 y2 y3 y4 y5 y6 y7 y8 y9 y10 y11 y12 y13, LeO (scan_Covered.j1 k y0 y1 y2 y3 y4 y5 y6 y7 y8 y9 y10 y11 y12 y13) (scan_Covered.j1 (k + 1) y0 y1 y2 y3 y4 y5 y6 y7 y8 y9 y10 y11 y12 y13))
 | 0=>⟨fun _ _ _ _ _ _ _ _ _ r h=>by simp [scan_Covered.l0] at h,fun _ _ _ _ _ _ _ _ _ _ _ _ _ _ r h=>by simp [scan_Covered.j1] at h⟩
 | k+1=>by
  obtain ⟨ih0,ih1⟩:=scan_Covered.mono_l k
  refine ⟨?_,?_⟩
  ·intro y0 y1 y2 y3 y4 y5 y6 y7 y8
   unfold scan_Covered.l0
   repeat' first
   | (with_reducible exact ih0 _ _ _ _ _ _ _ _ _)
   | (with_reducible exact ih1 _ _ _ _ _ _ _ _ _ _ _ _ _ _)
   | (with_reducible exact pen_Swept.mono _ _ _ _ _ _)
   | (with_reducible exact scan_cover.mono _ _ _ _)
   | (with_reducible exact scan_spans.mono _ _)
   | (with_reducible exact LeO.refl _)
   | (with_reducible exact LeO.none _)
   | (with_reducible refine LeO.ite ?_ ?_)
   | (with_reducible refine LeO.bind ?_ (fun _=>?_))
   | exact ih0 _ _ _ _ _ _ _ _ _
   | exact ih1 _ _ _ _ _ _ _ _ _ _ _ _ _ _
   | exact pen_Swept.mono _ _ _ _ _ _
   | exact scan_cover.mono _ _ _ _
   | exact scan_spans.mono _ _
   | exact LeO.none _
   | refine LeO.ite ?_ ?_
   | refine LeO.bind ?_ (fun _=>?_)
  ·intro y0 y1 y2 y3 y4 y5 y6 y7 y8 y9 y10 y11 y12 y13
   unfold scan_Covered.j1
   repeat' first
   | (with_reducible exact ih0 _ _ _ _ _ _ _ _ _)
   | (with_reducible exact ih1 _ _ _ _ _ _ _ _ _ _ _ _ _ _)
   | (with_reducible exact pen_Swept.mono _ _ _ _ _ _)
   | (with_reducible exact scan_cover.mono _ _ _ _)
   | (with_reducible exact scan_spans.mono _ _)
   | (with_reducible exact LeO.refl _)
   | (with_reducible exact LeO.none _)
   | (with_reducible refine LeO.ite ?_ ?_)
   | (with_reducible refine LeO.bind ?_ (fun _=>?_))
   | exact ih0 _ _ _ _ _ _ _ _ _
   | exact ih1 _ _ _ _ _ _ _ _ _ _ _ _ _ _
   | exact pen_Swept.mono _ _ _ _ _ _
   | exact scan_cover.mono _ _ _ _
   | exact scan_spans.mono _ _
   | exact LeO.none _
   | refine LeO.ite ?_ ?_
   | refine LeO.bind ?_ (fun _=>?_)
theorem scan_Covered.mono : ∀ a0 a1 a2 a3 k,LeO (scan_Covered.f k a0 a1 a2 a3) (scan_Covered.f (k+1) a0 a1 a2 a3):=by
 intro a0 a1 a2 a3 k
 obtain ⟨ih0,ih1⟩:=scan_Covered.mono_l k
 unfold scan_Covered.f
 repeat' first
   | (with_reducible exact ih0 _ _ _ _ _ _ _ _ _)
   | (with_reducible exact ih1 _ _ _ _ _ _ _ _ _ _ _ _ _ _)
   | (with_reducible exact pen_Swept.mono _ _ _ _ _ _)
   | (with_reducible exact scan_cover.mono _ _ _ _)
   | (with_reducible exact scan_spans.mono _ _)
   | (with_reducible exact LeO.refl _)
   | (with_reducible exact LeO.none _)
   | (with_reducible refine LeO.ite ?_ ?_)
   | (with_reducible refine LeO.bind ?_ (fun _=>?_))
   | exact ih0 _ _ _ _ _ _ _ _ _
   | exact ih1 _ _ _ _ _ _ _ _ _ _ _ _ _ _
   | exact pen_Swept.mono _ _ _ _ _ _
   | exact scan_cover.mono _ _ _ _
   | exact scan_spans.mono _ _
   | exact LeO.none _
   | refine LeO.ite ?_ ?_
   | refine LeO.bind ?_ (fun _=>?_)
set_option maxHeartbeats 8000000 in
theorem scan_Covered.calls (k : Nat) (A0 : Option Addr) (c0 : Nat) (l0 : List (S31)) (A1 : Option Addr) (c1 : Nat) (l1 : List (S31)) (a2 : Int) (a3 : Int) (r : List (S36)) (w : World) (hr0 : Kd.C k31 w A0 l0.length l0) (hc0 : l0.length ≤ c0) (hr1 : Kd.C k31 w A1 l1.length l1) (hc1 : l1.length ≤ c1) (h : scan_Covered.f k l0 l1 a2 a3 = some r) :
  Calls Try.prog 24 #[.slice A0 l0.length c0,.slice A1 l1.length c1,.int .i64 a2,.int .i64 a3] w fun e w'=>∃ v0_:Value,e = .returned (v0_)∧Kd.R k36 36 w' w.heap.size (fun _=>True) v0_ r∧Below w.heap.size w w':=by
 have hu31:=Try.underlying31
 have HR0:=aK hr0
 have HC0:=aK hc0
 clear hr0 hc0
 have HR1:=aK hr1
 have HC1:=aK hc1
 clear hr1 hc1
 have HB:=aK (Below.refl w.heap.size w)
 have H:(if 0≤a2 then (if (a2:Int).toNat≤281474976710656 then ((scan_middle.f a3).bind fun t199=>((flat_Bounds.f l0).bind fun bt200=>((flat_Bounds.f l0).bind fun bt204=>(scan_Covered.l0 k l0 l1 (List.replicate (a2:Int).toNat false) t199 bt200.2.1 bt204.2.2.2 l1 (l1.length:Int) 0)))) else (none)) else (none))=some r:=h
 clear h
 by_cases c5:0≤a2
 ·rw [if_pos c5] at H
  have c5b0:=eq_true c5
  have c5b1:decide (0≤a2)=true:=decide_eq_true c5
  clear c5
  by_cases c6:(a2:Int).toNat≤281474976710656
  ·rw [if_pos c6] at H
   have c6b0:=eq_true c6
   have c6b1:decide ((a2:Int).toNat≤281474976710656)=true:=decide_eq_true c6
   clear c6
   obtain ⟨y196,hy196⟩ : ∃ y_:List Bool,y_=(List.replicate (a2:Int).toNat false):=⟨_,rfl⟩
   replace H:((scan_middle.f a3).bind fun t199=>((flat_Bounds.f l0).bind fun bt200=>((flat_Bounds.f l0).bind fun bt204=>(scan_Covered.l0 k l0 l1 y196 t199 bt200.2.1 bt204.2.2.2 l1 (l1.length:Int) 0))))=some r:=by first|(rw [hy196];with_reducible exact H)|(have H2_:=(Option.bind_some _ _).symm.trans H;rw [hy196];with_reducible exact H2_)|(have H2_:=(Option.bind_some _ _).symm.trans H;with_reducible exact H2_)|with_reducible exact H|(rw [hy196];exact H)|exact H
   have Ny196:=aK hy196
   clear hy196
   replace H:=Option.bind_eq_some_iff.mp H
   obtain ⟨t199,A70,H⟩:=H
   replace H:((flat_Bounds.f l0).bind fun bt200=>((flat_Bounds.f l0).bind fun bt204=>(scan_Covered.l0 k l0 l1 y196 t199 bt200.2.1 bt204.2.2.2 l1 (l1.length:Int) 0)))=some r:=H
   have A7:=aK A70
   clear A70
   replace H:=Option.bind_eq_some_iff.mp H
   obtain ⟨⟨t200,t201,t202,t203⟩,A80,H⟩:=H
   replace H:((flat_Bounds.f l0).bind fun bt204=>(scan_Covered.l0 k l0 l1 y196 t199 t201 bt204.2.2.2 l1 (l1.length:Int) 0))=some r:=H
   have A8:=aK A80
   clear A80
   replace H:=Option.bind_eq_some_iff.mp H
   obtain ⟨⟨t204,t205,t206,t207⟩,A90,H⟩:=H
   replace H:(scan_Covered.l0 k l0 l1 y196 t199 t201 t207 l1 (l1.length:Int) 0)=some r:=H
   have A9:=aK A90
   clear A90
   have H':=aK H
   clear H
   go_enter Try.func24,Try.ntmps24
   go_wp2_with (first|((with_reducible refine gate_dst (N:=17) rfl ?_);refine Kd.R_make Kd.bool _ 4 rfl (N:=17) rfl 60 _ _ rfl a2 rfl rfl Try.underlying60 (.bool false) 1 info4 rfl (by decide) (by omega) false (ok:=fun _=>True) (okp:=fun _=>True) rfl (fun _ hk=>hk) trivial (of_decide_eq_true (by first|(with_reducible assumption)|assumption)) (Nat.le_trans (Nat.mul_le_mul_right _ (of_decide_eq_true (by first|(with_reducible assumption)|assumption):a2.toNat≤281474976710656)) (by omega)) (Below.refl _ _) (Nat.le_refl _) ?_;intro v197 w10 ho11 hb hg_ hnew_;clear hg_ hnew_;(first|rw [← Ny196.out] at ho11|(simp only [Int.reduceToNat] at ho11;rw [← Ny196.out] at ho11));have n0_:=aK (Kd.R_lower ho11 (below_size (by repeat (first|(with_reducible first|exact HB.out|apply below_alloc|apply pw_below_drewN|apply below_drew1)|exact HB.out))));have n1_:=aK (below_step (by repeat (first|(with_reducible first|exact HB.out|apply below_alloc|apply pw_below_drewN|apply below_drew1)|exact HB.out)) hb);clear HB;have HO198:=n0_;have HB:=n1_;clear n0_ n1_;clear hb ho11)|((with_reducible refine gate_callee (f:=33) rfl ?_);refine goesL_ (some 19) rfl rfl Try.func33 (by kernel_rfl) rfl #[.int .i64 a3] rfl (by (try simp only [List.map_toArray,List.map_cons,List.map_nil]);first|done|rfl|(simp only [List.length_drop,List.length_take];rfl)) ?_;(with_reducible refine (scan_middle.calls a3 t199 _ A7.out).mono ?_);rintro e w' ⟨rfl,⟨nd,rfl⟩⟩;refine ⟨_,rfl,?_⟩)|((with_reducible refine gate_callee (f:=44) rfl ?_);refine goesL_ (some 21) rfl rfl Try.func44 (by kernel_rfl) rfl #[.slice A0 l0.length c0] rfl (by (try simp only [List.map_toArray,List.map_cons,List.map_nil]);first|done|rfl|(simp only [List.length_drop,List.length_take];rfl)) ?_;(with_reducible refine (flat_Bounds.calls _ _ l0 t200 t201 t202 t203 _ ?side1 ?side2 A8.out).mono ?_);(case side1=>repeat (first|exact (Kd.C_below HR0.out (by repeat (first|(with_reducible first|exact HB.out|apply below_alloc|apply pw_below_drewN|apply below_drew1)|exact HB.out)))|(with_reducible refine Kd.C_alloc ?_ _)|(with_reducible refine Kd.C_drewN ?_ _)|(with_reducible refine Kd.C_drew ?_)));(case side2=>exact HC0.out);rintro e w12 ⟨rfl,hb⟩;refine ⟨_,rfl,?_⟩;have n0_:=aK (Kd.R_below (by (with_reducible repeat (first|apply Kd.R_alloc|apply Kd.R_drewN|apply Kd.R_drew));exact HO198.out) hb);have n1_:=aK (below_step (by repeat (first|(with_reducible first|exact HB.out|apply below_alloc|apply pw_below_drewN|apply below_drew1)|exact HB.out)) hb);clear HO198;clear HB;have HO198:=n0_;have HB:=n1_;clear n0_ n1_;(try clear hb);(try clear hb2);(try clear hk);(try clear hi))|((with_reducible refine gate_callee (f:=44) rfl ?_);refine goesL_ (some 25) rfl rfl Try.func44 (by kernel_rfl) rfl #[.slice A0 l0.length c0] rfl (by (try simp only [List.map_toArray,List.map_cons,List.map_nil]);first|done|rfl|(simp only [List.length_drop,List.length_take];rfl)) ?_;(with_reducible refine (flat_Bounds.calls _ _ l0 t204 t205 t206 t207 _ ?side1 ?side2 A9.out).mono ?_);(case side1=>repeat (first|exact (Kd.C_below HR0.out HB.out)|(with_reducible refine Kd.C_alloc ?_ _)|(with_reducible refine Kd.C_drewN ?_ _)|(with_reducible refine Kd.C_drew ?_)));(case side2=>exact HC0.out);rintro e w13 ⟨rfl,hb⟩;refine ⟨_,rfl,?_⟩;have n0_:=aK (Kd.R_below (by (with_reducible repeat (first|apply Kd.R_alloc|apply Kd.R_drewN|apply Kd.R_drew));exact HO198.out) hb);have n1_:=aK (below_step (by repeat (first|(with_reducible first|exact HB.out|apply below_alloc|apply pw_below_drewN|apply below_drew1)|exact HB.out)) hb);clear HO198;clear HB;have HO198:=n0_;have HB:=n1_;clear n0_ n1_;(try clear hb);(try clear hb2);(try clear hk);(try clear hi)))
   go_loopg [30] k (fun kq v30 w'=>∃ (x9_1:List Bool) (x30_1:Int),v30 = .int .i64 x30_1∧Aside0 (scan_Covered.l0 kq l0 l1 x9_1 t199 t201 t207 l1 (l1.length:Int) x30_1=some r)∧Aside0 (kq≤k)∧Aside0 (Kd.R Kd.bool 4 w' w.heap.size (fun _=>True) v197 x9_1)∧Aside0 (Below w.heap.size w w'))
   case atStart=>exact ⟨(y196),(0),(by first|rfl|(simp;done)|(simp [*];done)),H',⟨Nat.le_refl _⟩,⟨by (with_reducible repeat (first|apply Kd.R_alloc|apply Kd.R_drewN|apply Kd.R_drew));exact HO198.out⟩,⟨by repeat (first|(with_reducible first|exact HB.out|apply below_alloc|apply pw_below_drewN|apply below_drew1)|exact HB.out)⟩⟩
   case round =>
    clear H'
    try clear c1
    try clear c2
    try clear p2
    try clear c3
    try clear c4
    try clear c5
    try clear c5b0
    try clear c5b1
    try clear c6
    try clear c6b0
    try clear c6b1
    obtain ⟨x9_1,x30_1,rfl,HA,HK1,HO_9,HB⟩:=hrel
    cases gk with
    | zero=>exact absurd HA.out (by simp [scan_Covered.l0])
    | succ k1 =>
     have H:=HA.out
     clear HA
     simp only [scan_Covered.l0] at H
     by_cases c14:x30_1<(l1.length:Int)
     ·rw [if_pos c14] at H
      have c14b0:decide (x30_1<(l1.length:Int))=true:=decide_eq_true c14
      clear c14
      by_cases c15:0≤x30_1
      ·rw [if_pos c15] at H
       have c15b0:decide (0≤x30_1)=true:=decide_eq_true c15
       clear c15
       by_cases c16:x30_1<(l1.length:Int)
       ·rw [if_pos c16] at H
        have c16b0:decide (x30_1<(l1.length:Int))=true:=decide_eq_true c16
        clear c16
        obtain ⟨ji17,hji17⟩ : ∃ j_:Int,(mx (wrap64 (x30_1-1)) 0)=j_:=⟨_,rfl⟩
        replace H:(if 0≤(ji17) then (if (ji17)<(l1.length:Int) then (if x30_1=0 then (if (l1.length:Int)>1 then (scan_Covered.j1 k1 l0 l1 x9_1 t199 t201 t207 l1 (l1.length:Int) x30_1 true ((rd_T31 l1 x30_1).f0) ((rd_T31 l1 x30_1).f1) ((rd_T31 l1 (ji17)).f0) ((rd_T31 l1 (ji17)).f1)) else (if (wrap64 ((mn ((rd_T31 l1 (ji17)).f1) ((rd_T31 l1 x30_1).f1))+t201))>t199 then (scan_Covered.j1 k1 l0 l1 x9_1 t199 t201 t207 l1 (l1.length:Int) x30_1 true ((rd_T31 l1 x30_1).f0) ((rd_T31 l1 x30_1).f1) ((rd_T31 l1 (ji17)).f0) ((rd_T31 l1 (ji17)).f1)) else (scan_Covered.j1 k1 l0 l1 x9_1 t199 t201 t207 l1 (l1.length:Int) x30_1 (decide ((wrap64 ((mx ((rd_T31 l1 (ji17)).f1) ((rd_T31 l1 x30_1).f1))+t207))<t199)) ((rd_T31 l1 x30_1).f0) ((rd_T31 l1 x30_1).f1) ((rd_T31 l1 (ji17)).f0) ((rd_T31 l1 (ji17)).f1)))) else (if (wrap64 ((mn ((rd_T31 l1 (ji17)).f1) ((rd_T31 l1 x30_1).f1))+t201))>t199 then (scan_Covered.j1 k1 l0 l1 x9_1 t199 t201 t207 l1 (l1.length:Int) x30_1 true ((rd_T31 l1 x30_1).f0) ((rd_T31 l1 x30_1).f1) ((rd_T31 l1 (ji17)).f0) ((rd_T31 l1 (ji17)).f1)) else (scan_Covered.j1 k1 l0 l1 x9_1 t199 t201 t207 l1 (l1.length:Int) x30_1 (decide ((wrap64 ((mx ((rd_T31 l1 (ji17)).f1) ((rd_T31 l1 x30_1).f1))+t207))<t199)) ((rd_T31 l1 x30_1).f0) ((rd_T31 l1 x30_1).f1) ((rd_T31 l1 (ji17)).f0) ((rd_T31 l1 (ji17)).f1)))) else (none)) else (none))=some r:=by first|(rw [hji17] at H;exact H)|(simp only [hji17] at H ⊢;exact H)
        have hji17_:(if (wrap64 (x30_1-1))<0 then 0 else (wrap64 (x30_1-1)))=ji17:=hji17
        by_cases c18:0≤(ji17)
        ·rw [if_pos c18] at H
         have c18b0:decide (0≤(ji17))=true:=decide_eq_true c18
         clear c18
         by_cases c19:(ji17)<(l1.length:Int)
         ·rw [if_pos c19] at H
          have c19b0:decide ((ji17)<(l1.length:Int))=true:=decide_eq_true c19
          clear c19
          have HC20:=aK H
          clear H
          have p211:0≤(x30_1:Int):=of_decide_eq_true (by first|(with_reducible assumption)|assumption)
          have q211:x30_1<(l1.length:Int):=of_decide_eq_true (by first|(with_reducible assumption)|assumption)
          obtain ⟨ad211,e211,hx211_0,hx211_1⟩:=at_T31 HR1.out x30_1 p211 q211
          cases e211
          replace hx211_0:=(HB.out.cell (World.block_lt_of_cell? w _ hx211_0)).trans hx211_0
          replace hx211_1:=(HB.out.cell (World.block_lt_of_cell? w _ hx211_1)).trans hx211_1
          replace p211:=eq_true p211
          replace q211:=eq_true q211
          go_upto_region 8 with (first|((with_reducible refine gate_dst (N:=14) rfl ?_);refine box_event ?hg (N:=14) ?hd (cs:=#[.int .i64 0,.int .i64 0]) (t:=31) ?hr ?_;(case hd=>rfl);(case hg=>rfl);(case hr=>first|(go_simp;done)|(go_simp;rfl));intro gb212 hg w21 hbox hb;have n0_:=aK (Kd.R_below (by (with_reducible repeat (first|apply Kd.R_alloc|apply Kd.R_drewN|apply Kd.R_drew));exact HO_9.out) hb);have n1_:=aK (below_step (by repeat (first|(with_reducible first|exact HB.out|apply below_alloc|apply pw_below_drewN|apply below_drew1)|exact HB.out)) hb);have n2_:=aK (hbox);have n3_:=aK ((by rw [hg];exact (below_size (by repeat (first|(with_reducible first|exact HB.out|apply below_alloc|apply pw_below_drewN|apply below_drew1)|exact HB.out))):w.heap.size≤gb212));have n4_:=n3_;clear HO_9;clear HB;have HO_9:=n0_;have HB:=n1_;have BK212:=n2_;have GW212:=n3_;have GE212:=n4_;clear n0_ n1_ n2_ n3_ n4_;clear hb hbox hg;have hcz22_0:w21.cell? ⟨gb212,0,none⟩=some (.int .i64 0):=(blk_cell BK212.out 0).trans rfl;have hcz22_1:w21.cell? ⟨gb212,1,none⟩=some (.int .i64 0):=(blk_cell BK212.out 1).trans rfl;have hfz22_0:=blk_frozen BK212.out 0;have hfz22_1:=blk_frozen BK212.out 1;have p213:0≤((ji17):Int):=of_decide_eq_true (by first|(with_reducible assumption)|assumption);have q213:(ji17)<(l1.length:Int):=of_decide_eq_true (by first|(with_reducible assumption)|assumption);obtain ⟨ad213,e213,hx213_0,hx213_1⟩:=at_T31 HR1.out (ji17) p213 q213;obtain rfl:ad211=ad213:=(by injection e213);have hn213_0:ad211.block≠gb212:=Nat.ne_of_lt (Nat.lt_of_lt_of_le (by have:=World.block_lt_of_cell? _ _ hx213_0;first|rwa [add_block] at this|exact this) GW212.out);have hn213_1:ad211.block≠gb212:=Nat.ne_of_lt (Nat.lt_of_lt_of_le (by have:=World.block_lt_of_cell? _ _ hx213_0;first|rwa [add_block] at this|exact this) GW212.out);replace hx213_0:=(HB.out.cell (World.block_lt_of_cell? w _ hx213_0)).trans hx213_0;replace hx213_1:=(HB.out.cell (World.block_lt_of_cell? w _ hx213_1)).trans hx213_1;replace hx213_0:=(cell_far (p:=⟨gb212,0,none⟩) (by first|(rw [add_block];exact hn213_0)|(show (Addr.add _ _).block≠_;rw [add_block];exact hn213_0)|exact hn213_0) (.int .i64 ((rd_T31 l1 x30_1).f0))).trans hx213_0;replace hx213_1:=(cell_far (p:=⟨gb212,0,none⟩) (by first|(rw [add_block];exact hn213_0)|(show (Addr.add _ _).block≠_;rw [add_block];exact hn213_0)|exact hn213_0) (.int .i64 ((rd_T31 l1 x30_1).f0))).trans hx213_1;replace hx213_0:=(cell_far (p:=⟨gb212,1,none⟩) (by first|(rw [add_block];exact hn213_1)|(show (Addr.add _ _).block≠_;rw [add_block];exact hn213_1)|exact hn213_1) (.int .i64 ((rd_T31 l1 x30_1).f1))).trans hx213_0;replace hx213_1:=(cell_far (p:=⟨gb212,1,none⟩) (by first|(rw [add_block];exact hn213_1)|(show (Addr.add _ _).block≠_;rw [add_block];exact hn213_1)|exact hn213_1) (.int .i64 ((rd_T31 l1 x30_1).f1))).trans hx213_1;clear hn213_0;clear hn213_1;replace p213:=eq_true p213;replace q213:=eq_true q213)|((with_reducible refine gate_dst (N:=15) rfl ?_);refine box_event ?hg (N:=15) ?hd (cs:=#[.int .i64 0,.int .i64 0]) (t:=31) ?hr ?_;(case hd=>rfl);(case hg=>rfl);(case hr=>first|(go_simp;done)|(go_simp;rfl));intro gb214 hg w23 hbox hb;have n0_:=aK (Kd.R_below (by (with_reducible repeat (first|apply Kd.R_alloc|apply Kd.R_drewN|apply Kd.R_drew));exact (Kd.R_mono (Kd.R_far (p:=⟨gb212,1,none⟩) (Kd.R_far (p:=⟨gb212,0,none⟩) (Kd.R_types HO_9.out BK212.out (by decide)) (fun _ hk=>hk.2) (.int .i64 ((rd_T31 l1 x30_1).f0))) (fun _ hk=>hk.2) (.int .i64 ((rd_T31 l1 x30_1).f1))) (fun _ h_=>h_.1))) hb);have n1_:=aK (blk_below (g:=gb212) (o:=.cells #[.int .i64 ((rd_T31 l1 x30_1).f0),.int .i64 ((rd_T31 l1 x30_1).f1)] 31 (0,0)) (by (with_reducible repeat (first|refine blk_drewN ?_ _|refine blk_drew ?_|refine blk_alloc ?_ _));refine blk_put (cs:=#[.int .i64 ((rd_T31 l1 x30_1).f0),.int .i64 0]) ?_ 1 _ rfl;(with_reducible repeat (first|refine blk_drewN ?_ _|refine blk_drew ?_|refine blk_alloc ?_ _));refine blk_put (cs:=#[.int .i64 0,.int .i64 0]) ?_ 0 _ rfl;(with_reducible repeat (first|refine blk_drewN ?_ _|refine blk_drew ?_|refine blk_alloc ?_ _));exact BK212.out) hb);have n2_:=aK (below_step (by repeat (first|(with_reducible first|exact HB.out|apply below_alloc|apply pw_below_drewN|apply below_drew1|refine below_set ?_ GE212.out)|exact HB.out)) hb);have n3_:=aK (hbox);have n4_:=aK ((by rw [hg];exact (below_size (by repeat (first|(with_reducible first|exact HB.out|apply below_alloc|apply pw_below_drewN|apply below_drew1|refine below_set ?_ GE212.out)|exact HB.out))):w.heap.size≤gb214));have n5_:=n4_;have n6_:=aK ((by rw [hg];exact Nat.ne_of_lt (blk_lt (g:=gb212) (o:=.cells #[.int .i64 ((rd_T31 l1 x30_1).f0),.int .i64 ((rd_T31 l1 x30_1).f1)] 31 (0,0)) (by (with_reducible repeat (first|refine blk_drewN ?_ _|refine blk_drew ?_|refine blk_alloc ?_ _));refine blk_put (cs:=#[.int .i64 ((rd_T31 l1 x30_1).f0),.int .i64 0]) ?_ 1 _ rfl;(with_reducible repeat (first|refine blk_drewN ?_ _|refine blk_drew ?_|refine blk_alloc ?_ _));refine blk_put (cs:=#[.int .i64 0,.int .i64 0]) ?_ 0 _ rfl;(with_reducible repeat (first|refine blk_drewN ?_ _|refine blk_drew ?_|refine blk_alloc ?_ _));exact BK212.out)):gb212≠gb214));have n7_:=aK (Ne.symm n6_.out);clear HO_9;clear BK212;clear HB;have HO_9:=n0_;have BK212:=n1_;have HB:=n2_;have BK214:=n3_;have GW214:=n4_;have GE214:=n5_;have NB212_214:=n6_;have NB214_212:=n7_;clear n0_ n1_ n2_ n3_ n4_ n5_ n6_ n7_;clear hb hbox hg;have hnb24:=NB214_212.out;have hnc24:=NB212_214.out;have hcz25_0:w23.cell? ⟨gb214,0,none⟩=some (.int .i64 0):=(blk_cell BK214.out 0).trans rfl;have hcz25_1:w23.cell? ⟨gb214,1,none⟩=some (.int .i64 0):=(blk_cell BK214.out 1).trans rfl;have hfz25_0:=blk_frozen BK214.out 0;have hfz25_1:=blk_frozen BK214.out 1))
          (try simp only [Act.put,lS])
          go_cut [69] (fun v69 wc=>∃ (kq:Nat) (x69_19:Bool),v69 = .bool x69_19∧Aside0 (scan_Covered.j1 kq l0 l1 x9_1 t199 t201 t207 l1 (l1.length:Int) x30_1 x69_19 ((rd_T31 l1 x30_1).f0) ((rd_T31 l1 x30_1).f1) ((rd_T31 l1 (ji17)).f0) ((rd_T31 l1 (ji17)).f1)=some r)∧Aside0 (kq≤k1)∧Aside0 (Kd.R Kd.bool 4 wc w.heap.size (fun _=>True) v197 x9_1)∧Aside0 (wc.heap[gb212]?=some (.cells #[.int .i64 ((rd_T31 l1 x30_1).f0),.int .i64 ((rd_T31 l1 x30_1).f1)] 31 (0,0)))∧Aside0 (wc.heap[gb214]?=some (.cells #[.int .i64 ((rd_T31 l1 (ji17)).f0),.int .i64 ((rd_T31 l1 (ji17)).f1)] 31 (0,0)))∧Aside0 (Below w.heap.size w wc))
          case first =>
           have H:=HC20.out
           clear HC20
           by_cases c26:x30_1=0
           ·rw [if_pos c26] at H
            have c26b0:(x30_1 == 0)=true:=beq_iff_eq.mpr c26
            have c26b1:(x30_1 != 0)=false:=bne_eq_false_iff_eq.mpr c26
            clear c26
            (first|rw [c26b0]|(simp only [i64_w,i32_w];rw [c26b0])|skip)
            by_cases c27:(l1.length:Int)>1
            ·rw [if_pos c27] at H
             have c27b0:decide (1<(l1.length:Int))=true:=decide_eq_true c27
             have c27b1:decide (1<l1.length)=true:=decide_eq_true (by omega)
             clear c27
             have H':=aK H
             clear H
             go_wp2
             go_meet
             case rel=>exact ⟨_,(true),(by first|rfl|(simp;done)|(simp [*];done)),H',⟨by have:=HK1.out;first|omega|exact Nat.le_refl _⟩,⟨by (with_reducible repeat (first|apply Kd.R_alloc|apply Kd.R_drewN|apply Kd.R_drew));exact Kd.R_mono (Kd.R_far (p:=⟨gb214,1,none⟩) (Kd.R_far (p:=⟨gb214,0,none⟩) (Kd.R_types HO_9.out BK214.out (by decide)) (fun _ hk=>hk.2) (.int .i64 ((rd_T31 l1 (ji17)).f0))) (fun _ hk=>hk.2) (.int .i64 ((rd_T31 l1 (ji17)).f1))) (fun _ hk=>trivial)⟩,⟨by (with_reducible repeat (first|refine blk_drewN ?_ _|refine blk_drew ?_|refine blk_alloc ?_ _));refine blk_far ?_ NB212_214.out _;(with_reducible repeat (first|refine blk_drewN ?_ _|refine blk_drew ?_|refine blk_alloc ?_ _));refine blk_far ?_ NB212_214.out _;(with_reducible repeat (first|refine blk_drewN ?_ _|refine blk_drew ?_|refine blk_alloc ?_ _));exact BK212.out⟩,⟨by (with_reducible repeat (first|refine blk_drewN ?_ _|refine blk_drew ?_|refine blk_alloc ?_ _));refine blk_put (cs:=#[.int .i64 ((rd_T31 l1 (ji17)).f0),.int .i64 0]) ?_ 1 _ rfl;(with_reducible repeat (first|refine blk_drewN ?_ _|refine blk_drew ?_|refine blk_alloc ?_ _));refine blk_put (cs:=#[.int .i64 0,.int .i64 0]) ?_ 0 _ rfl;(with_reducible repeat (first|refine blk_drewN ?_ _|refine blk_drew ?_|refine blk_alloc ?_ _));exact BK214.out⟩,⟨by repeat (first|(with_reducible first|exact HB.out|apply below_alloc|apply pw_below_drewN|apply below_drew1|refine below_set ?_ GE212.out|refine below_set ?_ GE214.out)|exact HB.out)⟩⟩
            ·rw [if_neg c27] at H
             have c27b0:decide (1<(l1.length:Int))=false:=decide_eq_false c27
             have c27b1:decide (1<l1.length)=false:=decide_eq_false (by omega)
             clear c27
             obtain ⟨ji28,hji28⟩ : ∃ j_:Int,(mn ((rd_T31 l1 (ji17)).f1) ((rd_T31 l1 x30_1).f1))=j_:=⟨_,rfl⟩
             replace H:(if (wrap64 ((ji28)+t201))>t199 then (scan_Covered.j1 k1 l0 l1 x9_1 t199 t201 t207 l1 (l1.length:Int) x30_1 true ((rd_T31 l1 x30_1).f0) ((rd_T31 l1 x30_1).f1) ((rd_T31 l1 (ji17)).f0) ((rd_T31 l1 (ji17)).f1)) else (scan_Covered.j1 k1 l0 l1 x9_1 t199 t201 t207 l1 (l1.length:Int) x30_1 (decide ((wrap64 ((mx ((rd_T31 l1 (ji17)).f1) ((rd_T31 l1 x30_1).f1))+t207))<t199)) ((rd_T31 l1 x30_1).f0) ((rd_T31 l1 x30_1).f1) ((rd_T31 l1 (ji17)).f0) ((rd_T31 l1 (ji17)).f1)))=some r:=by first|(rw [hji28] at H;exact H)|(simp only [hji28] at H ⊢;exact H)
             have hji28_:(if ((rd_T31 l1 x30_1).f1)<((rd_T31 l1 (ji17)).f1) then ((rd_T31 l1 x30_1).f1) else ((rd_T31 l1 (ji17)).f1))=ji28:=hji28
             by_cases c29:(wrap64 ((ji28)+t201))>t199
             ·rw [if_pos c29] at H
              have c29b0:decide (t199<(wrap64 ((ji28)+t201)))=true:=decide_eq_true c29
              clear c29
              have H':=aK H
              clear H
              have hnb30:=NB214_212.out
              have hnc30:=NB212_214.out
              have hcz31_0:w23.cell? ⟨gb214,0,none⟩=some (.int .i64 0):=(blk_cell BK214.out 0).trans rfl
              have hcz31_1:w23.cell? ⟨gb214,1,none⟩=some (.int .i64 0):=(blk_cell BK214.out 1).trans rfl
              have hfz31_0:=blk_frozen BK214.out 0
              have hfz31_1:=blk_frozen BK214.out 1
              have hcz32_0:w23.cell? ⟨gb212,0,none⟩=some (.int .i64 ((rd_T31 l1 x30_1).f0)):=(blk_cell BK212.out 0).trans rfl
              have hcz32_1:w23.cell? ⟨gb212,1,none⟩=some (.int .i64 ((rd_T31 l1 x30_1).f1)):=(blk_cell BK212.out 1).trans rfl
              have hfz32_0:=blk_frozen BK212.out 0
              have hfz32_1:=blk_frozen BK212.out 1
              go_wp2
              go_meet
              case rel=>exact ⟨_,(true),(by first|rfl|(simp;done)|(simp [*];done)),H',⟨by have:=HK1.out;first|omega|exact Nat.le_refl _⟩,⟨by (with_reducible repeat (first|apply Kd.R_alloc|apply Kd.R_drewN|apply Kd.R_drew));exact Kd.R_mono (Kd.R_far (p:=⟨gb214,1,none⟩) (Kd.R_far (p:=⟨gb214,0,none⟩) (Kd.R_types HO_9.out BK214.out (by decide)) (fun _ hk=>hk.2) (.int .i64 ((rd_T31 l1 (ji17)).f0))) (fun _ hk=>hk.2) (.int .i64 ((rd_T31 l1 (ji17)).f1))) (fun _ hk=>trivial)⟩,⟨by (with_reducible repeat (first|refine blk_drewN ?_ _|refine blk_drew ?_|refine blk_alloc ?_ _));refine blk_far ?_ NB212_214.out _;(with_reducible repeat (first|refine blk_drewN ?_ _|refine blk_drew ?_|refine blk_alloc ?_ _));refine blk_far ?_ NB212_214.out _;(with_reducible repeat (first|refine blk_drewN ?_ _|refine blk_drew ?_|refine blk_alloc ?_ _));exact BK212.out⟩,⟨by (with_reducible repeat (first|refine blk_drewN ?_ _|refine blk_drew ?_|refine blk_alloc ?_ _));refine blk_put (cs:=#[.int .i64 ((rd_T31 l1 (ji17)).f0),.int .i64 0]) ?_ 1 _ rfl;(with_reducible repeat (first|refine blk_drewN ?_ _|refine blk_drew ?_|refine blk_alloc ?_ _));refine blk_put (cs:=#[.int .i64 0,.int .i64 0]) ?_ 0 _ rfl;(with_reducible repeat (first|refine blk_drewN ?_ _|refine blk_drew ?_|refine blk_alloc ?_ _));exact BK214.out⟩,⟨by repeat (first|(with_reducible first|exact HB.out|apply below_alloc|apply pw_below_drewN|apply below_drew1|refine below_set ?_ GE212.out|refine below_set ?_ GE214.out)|exact HB.out)⟩⟩
             ·rw [if_neg c29] at H
              have c29b0:decide (t199<(wrap64 ((ji28)+t201)))=false:=decide_eq_false c29
              clear c29
              obtain ⟨ji33,hji33⟩ : ∃ j_:Int,(mx ((rd_T31 l1 (ji17)).f1) ((rd_T31 l1 x30_1).f1))=j_:=⟨_,rfl⟩
              replace H:(scan_Covered.j1 k1 l0 l1 x9_1 t199 t201 t207 l1 (l1.length:Int) x30_1 (decide ((wrap64 ((ji33)+t207))<t199)) ((rd_T31 l1 x30_1).f0) ((rd_T31 l1 x30_1).f1) ((rd_T31 l1 (ji17)).f0) ((rd_T31 l1 (ji17)).f1))=some r:=by first|(rw [hji33] at H;exact H)|(simp only [hji33] at H ⊢;exact H)
              have hji33_:(if ((rd_T31 l1 (ji17)).f1)<((rd_T31 l1 x30_1).f1) then ((rd_T31 l1 x30_1).f1) else ((rd_T31 l1 (ji17)).f1))=ji33:=hji33
              have H':=aK H
              clear H
              have hnb34:=NB214_212.out
              have hnc34:=NB212_214.out
              have hcz35_0:w23.cell? ⟨gb214,0,none⟩=some (.int .i64 0):=(blk_cell BK214.out 0).trans rfl
              have hcz35_1:w23.cell? ⟨gb214,1,none⟩=some (.int .i64 0):=(blk_cell BK214.out 1).trans rfl
              have hfz35_0:=blk_frozen BK214.out 0
              have hfz35_1:=blk_frozen BK214.out 1
              have hcz36_0:w23.cell? ⟨gb212,0,none⟩=some (.int .i64 ((rd_T31 l1 x30_1).f0)):=(blk_cell BK212.out 0).trans rfl
              have hcz36_1:w23.cell? ⟨gb212,1,none⟩=some (.int .i64 ((rd_T31 l1 x30_1).f1)):=(blk_cell BK212.out 1).trans rfl
              have hfz36_0:=blk_frozen BK212.out 0
              have hfz36_1:=blk_frozen BK212.out 1
              go_wp2
              go_meet
              case rel=>exact ⟨_,(decide ((wrap64 ((ji33)+t207))<t199)),(by first|rfl|(simp;done)|(simp only [← hji33] <;> (first|rfl|simp))|(simp [*];done)),H',⟨by have:=HK1.out;first|omega|exact Nat.le_refl _⟩,⟨by (with_reducible repeat (first|apply Kd.R_alloc|apply Kd.R_drewN|apply Kd.R_drew));exact Kd.R_mono (Kd.R_far (p:=⟨gb214,1,none⟩) (Kd.R_far (p:=⟨gb214,0,none⟩) (Kd.R_types HO_9.out BK214.out (by decide)) (fun _ hk=>hk.2) (.int .i64 ((rd_T31 l1 (ji17)).f0))) (fun _ hk=>hk.2) (.int .i64 ((rd_T31 l1 (ji17)).f1))) (fun _ hk=>trivial)⟩,⟨by (with_reducible repeat (first|refine blk_drewN ?_ _|refine blk_drew ?_|refine blk_alloc ?_ _));refine blk_far ?_ NB212_214.out _;(with_reducible repeat (first|refine blk_drewN ?_ _|refine blk_drew ?_|refine blk_alloc ?_ _));refine blk_far ?_ NB212_214.out _;(with_reducible repeat (first|refine blk_drewN ?_ _|refine blk_drew ?_|refine blk_alloc ?_ _));exact BK212.out⟩,⟨by (with_reducible repeat (first|refine blk_drewN ?_ _|refine blk_drew ?_|refine blk_alloc ?_ _));refine blk_put (cs:=#[.int .i64 ((rd_T31 l1 (ji17)).f0),.int .i64 0]) ?_ 1 _ rfl;(with_reducible repeat (first|refine blk_drewN ?_ _|refine blk_drew ?_|refine blk_alloc ?_ _));refine blk_put (cs:=#[.int .i64 0,.int .i64 0]) ?_ 0 _ rfl;(with_reducible repeat (first|refine blk_drewN ?_ _|refine blk_drew ?_|refine blk_alloc ?_ _));exact BK214.out⟩,⟨by repeat (first|(with_reducible first|exact HB.out|apply below_alloc|apply pw_below_drewN|apply below_drew1|refine below_set ?_ GE212.out|refine below_set ?_ GE214.out)|exact HB.out)⟩⟩
           ·rw [if_neg c26] at H
            have c26b0:(x30_1 == 0)=false:=beq_eq_false_iff_ne.mpr c26
            have c26b1:(x30_1 != 0)=true:=bne_iff_ne.mpr c26
            (first|rw [c26b0]|(simp only [i64_w,i32_w];rw [c26b0])|skip)
            obtain ⟨ji37,hji37⟩ : ∃ j_:Int,(mn ((rd_T31 l1 (ji17)).f1) ((rd_T31 l1 x30_1).f1))=j_:=⟨_,rfl⟩
            replace H:(if (wrap64 ((ji37)+t201))>t199 then (scan_Covered.j1 k1 l0 l1 x9_1 t199 t201 t207 l1 (l1.length:Int) x30_1 true ((rd_T31 l1 x30_1).f0) ((rd_T31 l1 x30_1).f1) ((rd_T31 l1 (ji17)).f0) ((rd_T31 l1 (ji17)).f1)) else (scan_Covered.j1 k1 l0 l1 x9_1 t199 t201 t207 l1 (l1.length:Int) x30_1 (decide ((wrap64 ((mx ((rd_T31 l1 (ji17)).f1) ((rd_T31 l1 x30_1).f1))+t207))<t199)) ((rd_T31 l1 x30_1).f0) ((rd_T31 l1 x30_1).f1) ((rd_T31 l1 (ji17)).f0) ((rd_T31 l1 (ji17)).f1)))=some r:=by first|(rw [hji37] at H;exact H)|(simp only [hji37] at H ⊢;exact H)
            have hji37_:(if ((rd_T31 l1 x30_1).f1)<((rd_T31 l1 (ji17)).f1) then ((rd_T31 l1 x30_1).f1) else ((rd_T31 l1 (ji17)).f1))=ji37:=hji37
            by_cases c38:(wrap64 ((ji37)+t201))>t199
            ·rw [if_pos c38] at H
             have c38b0:decide (t199<(wrap64 ((ji37)+t201)))=true:=decide_eq_true c38
             clear c38
             have H':=aK H
             clear H
             have hnb39:=NB214_212.out
             have hnc39:=NB212_214.out
             have hcz40_0:w23.cell? ⟨gb214,0,none⟩=some (.int .i64 0):=(blk_cell BK214.out 0).trans rfl
             have hcz40_1:w23.cell? ⟨gb214,1,none⟩=some (.int .i64 0):=(blk_cell BK214.out 1).trans rfl
             have hfz40_0:=blk_frozen BK214.out 0
             have hfz40_1:=blk_frozen BK214.out 1
             have hcz41_0:w23.cell? ⟨gb212,0,none⟩=some (.int .i64 ((rd_T31 l1 x30_1).f0)):=(blk_cell BK212.out 0).trans rfl
             have hcz41_1:w23.cell? ⟨gb212,1,none⟩=some (.int .i64 ((rd_T31 l1 x30_1).f1)):=(blk_cell BK212.out 1).trans rfl
             have hfz41_0:=blk_frozen BK212.out 0
             have hfz41_1:=blk_frozen BK212.out 1
             go_wp2
             go_meet
             case rel=>exact ⟨_,(true),(by first|rfl|(simp;done)|(simp [*];done)),H',⟨by have:=HK1.out;first|omega|exact Nat.le_refl _⟩,⟨by (with_reducible repeat (first|apply Kd.R_alloc|apply Kd.R_drewN|apply Kd.R_drew));exact Kd.R_mono (Kd.R_far (p:=⟨gb214,1,none⟩) (Kd.R_far (p:=⟨gb214,0,none⟩) (Kd.R_types HO_9.out BK214.out (by decide)) (fun _ hk=>hk.2) (.int .i64 ((rd_T31 l1 (ji17)).f0))) (fun _ hk=>hk.2) (.int .i64 ((rd_T31 l1 (ji17)).f1))) (fun _ hk=>trivial)⟩,⟨by (with_reducible repeat (first|refine blk_drewN ?_ _|refine blk_drew ?_|refine blk_alloc ?_ _));refine blk_far ?_ NB212_214.out _;(with_reducible repeat (first|refine blk_drewN ?_ _|refine blk_drew ?_|refine blk_alloc ?_ _));refine blk_far ?_ NB212_214.out _;(with_reducible repeat (first|refine blk_drewN ?_ _|refine blk_drew ?_|refine blk_alloc ?_ _));exact BK212.out⟩,⟨by (with_reducible repeat (first|refine blk_drewN ?_ _|refine blk_drew ?_|refine blk_alloc ?_ _));refine blk_put (cs:=#[.int .i64 ((rd_T31 l1 (ji17)).f0),.int .i64 0]) ?_ 1 _ rfl;(with_reducible repeat (first|refine blk_drewN ?_ _|refine blk_drew ?_|refine blk_alloc ?_ _));refine blk_put (cs:=#[.int .i64 0,.int .i64 0]) ?_ 0 _ rfl;(with_reducible repeat (first|refine blk_drewN ?_ _|refine blk_drew ?_|refine blk_alloc ?_ _));exact BK214.out⟩,⟨by repeat (first|(with_reducible first|exact HB.out|apply below_alloc|apply pw_below_drewN|apply below_drew1|refine below_set ?_ GE212.out|refine below_set ?_ GE214.out)|exact HB.out)⟩⟩
            ·rw [if_neg c38] at H
             have c38b0:decide (t199<(wrap64 ((ji37)+t201)))=false:=decide_eq_false c38
             clear c38
             obtain ⟨ji42,hji42⟩ : ∃ j_:Int,(mx ((rd_T31 l1 (ji17)).f1) ((rd_T31 l1 x30_1).f1))=j_:=⟨_,rfl⟩
             replace H:(scan_Covered.j1 k1 l0 l1 x9_1 t199 t201 t207 l1 (l1.length:Int) x30_1 (decide ((wrap64 ((ji42)+t207))<t199)) ((rd_T31 l1 x30_1).f0) ((rd_T31 l1 x30_1).f1) ((rd_T31 l1 (ji17)).f0) ((rd_T31 l1 (ji17)).f1))=some r:=by first|(rw [hji42] at H;exact H)|(simp only [hji42] at H ⊢;exact H)
             have hji42_:(if ((rd_T31 l1 (ji17)).f1)<((rd_T31 l1 x30_1).f1) then ((rd_T31 l1 x30_1).f1) else ((rd_T31 l1 (ji17)).f1))=ji42:=hji42
             have H':=aK H
             clear H
             have hnb43:=NB214_212.out
             have hnc43:=NB212_214.out
             have hcz44_0:w23.cell? ⟨gb214,0,none⟩=some (.int .i64 0):=(blk_cell BK214.out 0).trans rfl
             have hcz44_1:w23.cell? ⟨gb214,1,none⟩=some (.int .i64 0):=(blk_cell BK214.out 1).trans rfl
             have hfz44_0:=blk_frozen BK214.out 0
             have hfz44_1:=blk_frozen BK214.out 1
             have hcz45_0:w23.cell? ⟨gb212,0,none⟩=some (.int .i64 ((rd_T31 l1 x30_1).f0)):=(blk_cell BK212.out 0).trans rfl
             have hcz45_1:w23.cell? ⟨gb212,1,none⟩=some (.int .i64 ((rd_T31 l1 x30_1).f1)):=(blk_cell BK212.out 1).trans rfl
             have hfz45_0:=blk_frozen BK212.out 0
             have hfz45_1:=blk_frozen BK212.out 1
             go_wp2
             go_meet
             case rel=>exact ⟨_,(decide ((wrap64 ((ji42)+t207))<t199)),(by first|rfl|(simp;done)|(simp only [← hji42] <;> (first|rfl|simp))|(simp [*];done)),H',⟨by have:=HK1.out;first|omega|exact Nat.le_refl _⟩,⟨by (with_reducible repeat (first|apply Kd.R_alloc|apply Kd.R_drewN|apply Kd.R_drew));exact Kd.R_mono (Kd.R_far (p:=⟨gb214,1,none⟩) (Kd.R_far (p:=⟨gb214,0,none⟩) (Kd.R_types HO_9.out BK214.out (by decide)) (fun _ hk=>hk.2) (.int .i64 ((rd_T31 l1 (ji17)).f0))) (fun _ hk=>hk.2) (.int .i64 ((rd_T31 l1 (ji17)).f1))) (fun _ hk=>trivial)⟩,⟨by (with_reducible repeat (first|refine blk_drewN ?_ _|refine blk_drew ?_|refine blk_alloc ?_ _));refine blk_far ?_ NB212_214.out _;(with_reducible repeat (first|refine blk_drewN ?_ _|refine blk_drew ?_|refine blk_alloc ?_ _));refine blk_far ?_ NB212_214.out _;(with_reducible repeat (first|refine blk_drewN ?_ _|refine blk_drew ?_|refine blk_alloc ?_ _));exact BK212.out⟩,⟨by (with_reducible repeat (first|refine blk_drewN ?_ _|refine blk_drew ?_|refine blk_alloc ?_ _));refine blk_put (cs:=#[.int .i64 ((rd_T31 l1 (ji17)).f0),.int .i64 0]) ?_ 1 _ rfl;(with_reducible repeat (first|refine blk_drewN ?_ _|refine blk_drew ?_|refine blk_alloc ?_ _));refine blk_put (cs:=#[.int .i64 0,.int .i64 0]) ?_ 0 _ rfl;(with_reducible repeat (first|refine blk_drewN ?_ _|refine blk_drew ?_|refine blk_alloc ?_ _));exact BK214.out⟩,⟨by repeat (first|(with_reducible first|exact HB.out|apply below_alloc|apply pw_below_drewN|apply below_drew1|refine below_set ?_ GE212.out|refine below_set ?_ GE214.out)|exact HB.out)⟩⟩
          case rest =>
           clear HC20
           try clear c1
           try clear c2
           try clear p2
           try clear q2
           try clear hx2
           try clear c3
           try clear c4
           try clear c5
           try clear c5b0
           try clear c5b1
           try clear c6
           try clear c6b0
           try clear c6b1
           try clear p6
           try clear c14
           try clear c14b0
           try clear c15
           try clear c15b0
           try clear c16
           try clear c16b0
           try clear c18
           try clear c18b0
           try clear c19
           try clear c19b0
           try clear p21
           try clear q21
           try clear hx21
           try clear c24
           try clear c26
           try clear c26b0
           try clear c26b1
           try clear c27
           try clear c27b0
           try clear c27b1
           try clear c29
           try clear c29b0
           try clear c30
           try clear c33
           try clear c34
           try clear c38
           try clear c38b0
           try clear c39
           try clear c43
           try clear c44
           try clear hcz22_0
           try clear hcz22_1
           try clear hcz25_0
           try clear hcz25_1
           try clear hcz31_0
           try clear hcz31_1
           try clear hcz32_0
           try clear hcz32_1
           try clear hcz35_0
           try clear hcz35_1
           try clear hcz36_0
           try clear hcz36_1
           try clear hcz40_0
           try clear hcz40_1
           try clear hcz41_0
           try clear hcz41_1
           try clear hcz44_0
           try clear hcz44_1
           try clear hcz45_0
           try clear hcz45_1
           try clear hfz22_0
           try clear hfz22_1
           try clear hfz25_0
           try clear hfz25_1
           try clear hfz31_0
           try clear hfz31_1
           try clear hfz32_0
           try clear hfz32_1
           try clear hfz35_0
           try clear hfz35_1
           try clear hfz36_0
           try clear hfz36_1
           try clear hfz40_0
           try clear hfz40_1
           try clear hfz41_0
           try clear hfz41_1
           try clear hfz44_0
           try clear hfz44_1
           try clear hfz45_0
           try clear hfz45_1
           try clear hx211_0
           try clear hx211_1
           try clear hx213_0
           try clear hx213_1
           try clear p2
           try clear p211
           try clear p213
           try clear q211
           try clear q213
           obtain ⟨kq,x69_19,rfl,HA,HJ19,HO_9,BK212,BK214,HB⟩:=hcut
           cases kq with
           | zero=>exact absurd HA.out (by simp [scan_Covered.j1])
           | succ kj19 =>
            have H:=HA.out
            clear HA
            simp only [scan_Covered.j1] at H
            by_cases c46:x69_19=true
            ·subst c46
             have H1:(scan_Covered.l0 kj19 l0 l1 x9_1 t199 t201 t207 l1 (l1.length:Int) (wrap64 (x30_1+1)))=some r:=by rw [if_pos rfl] at H;exact H
             clear H
             have H:=H1
             clear H1
             have H':=aK H
             clear H
             go_wp2
             go_roundg kj19
             case measure=>have:=HK1.out;have:=HJ19.out;omega
             case rel=>exact ⟨(x9_1),(wrap64 (x30_1+1)),(by first|rfl|(simp;done)|(simp [*];done)),H',⟨by have:=HK1.out;have:=HJ19.out;omega⟩,⟨by (with_reducible repeat (first|apply Kd.R_alloc|apply Kd.R_drewN|apply Kd.R_drew));exact HO_9.out⟩,⟨by repeat (first|(with_reducible first|exact HB.out|apply below_alloc|apply pw_below_drewN|apply below_drew1|refine below_set ?_ GE212.out|refine below_set ?_ GE214.out)|exact HB.out)⟩⟩
            ·replace c46:=Bool.eq_false_iff.mpr c46
             subst c46
             have H1:((pen_Swept.f kj19 l0 ((rd_T31 l1 (ji17)).f0) ((rd_T31 l1 (ji17)).f1) ((rd_T31 l1 x30_1).f0) ((rd_T31 l1 x30_1).f1)).bind fun t215=>((scan_cover.f kj19 t215 t199 x9_1).bind fun t218=>(scan_Covered.l0 kj19 l0 l1 t218 t199 t201 t207 l1 (l1.length:Int) (wrap64 (x30_1+1)))))=some r:=by rw [if_neg (show ¬ (false=true) by decide)] at H;exact H
             clear H
             have H:=H1
             clear H1
             replace H:=Option.bind_eq_some_iff.mp H
             obtain ⟨t215,A470,H⟩:=H
             replace H:((scan_cover.f kj19 t215 t199 x9_1).bind fun t218=>(scan_Covered.l0 kj19 l0 l1 t218 t199 t201 t207 l1 (l1.length:Int) (wrap64 (x30_1+1))))=some r:=H
             have A47:=aK A470
             clear A470
             replace H:=Option.bind_eq_some_iff.mp H
             obtain ⟨t218,A480,H⟩:=H
             replace H:(scan_Covered.l0 kj19 l0 l1 t218 t199 t201 t207 l1 (l1.length:Int) (wrap64 (x30_1+1)))=some r:=H
             have A48:=aK A480
             clear A480
             have H':=aK H
             clear H
             have hnb49:=NB214_212.out
             have hnc49:=NB212_214.out
             have hcz50_0:wc.cell? ⟨gb214,0,none⟩=some (.int .i64 ((rd_T31 l1 (ji17)).f0)):=(blk_cell BK214.out 0).trans rfl
             have hcz50_1:wc.cell? ⟨gb214,1,none⟩=some (.int .i64 ((rd_T31 l1 (ji17)).f1)):=(blk_cell BK214.out 1).trans rfl
             have hfz50_0:=blk_frozen BK214.out 0
             have hfz50_1:=blk_frozen BK214.out 1
             have hcz51_0:wc.cell? ⟨gb212,0,none⟩=some (.int .i64 ((rd_T31 l1 x30_1).f0)):=(blk_cell BK212.out 0).trans rfl
             have hcz51_1:wc.cell? ⟨gb212,1,none⟩=some (.int .i64 ((rd_T31 l1 x30_1).f1)):=(blk_cell BK212.out 1).trans rfl
             have hfz51_0:=blk_frozen BK212.out 0
             have hfz51_1:=blk_frozen BK212.out 1
             go_wp2_with (first|((with_reducible refine gate_callee (f:=46) rfl ?_);refine goesL_ (some 73) rfl rfl Try.func46 (by kernel_rfl) rfl #[.slice A0 l0.length c0,.agg #[.int .i64 ((rd_T31 l1 (ji17)).f0),.int .i64 ((rd_T31 l1 (ji17)).f1)],.agg #[.int .i64 ((rd_T31 l1 x30_1).f0),.int .i64 ((rd_T31 l1 x30_1).f1)]] rfl (by (try simp only [List.map_toArray,List.map_cons,List.map_nil]);first|done|(simp only [hji17];rfl)|rfl|(simp only [List.length_drop,List.length_take];rfl)) ?_;(with_reducible refine (pen_Swept.calls kj19 _ _ l0 ((rd_T31 l1 (ji17)).f0) ((rd_T31 l1 (ji17)).f1) ((rd_T31 l1 x30_1).f0) ((rd_T31 l1 x30_1).f1) t215 _ ?side1 ?side2 A47.out).mono ?_);(case side1=>repeat (first|exact (Kd.C_below HR0.out HB.out)|(with_reducible refine Kd.C_alloc ?_ _)|(with_reducible refine Kd.C_drewN ?_ _)|(with_reducible refine Kd.C_drew ?_)));(case side2=>exact HC0.out);rintro e w52 ⟨v216,rfl,ho0,hb⟩;refine ⟨_,rfl,?_⟩;have n0_:=aK (Kd.R_below (by (with_reducible repeat (first|apply Kd.R_alloc|apply Kd.R_drewN|apply Kd.R_drew));exact HO_9.out) hb);have n1_:=aK (Kd.R_lower (Kd.R_newB (Kd.R_newB ho0 (g:=gb212) (o:=.cells #[.int .i64 ((rd_T31 l1 x30_1).f0),.int .i64 ((rd_T31 l1 x30_1).f1)] 31 (0,0)) (by (with_reducible repeat (first|refine blk_drewN ?_ _|refine blk_drew ?_|refine blk_alloc ?_ _));exact BK212.out)) (g:=gb214) (o:=.cells #[.int .i64 ((rd_T31 l1 (ji17)).f0),.int .i64 ((rd_T31 l1 (ji17)).f1)] 31 (0,0)) (by (with_reducible repeat (first|refine blk_drewN ?_ _|refine blk_drew ?_|refine blk_alloc ?_ _));exact BK214.out)) (below_size (by repeat (first|(with_reducible first|exact HB.out|apply below_alloc|apply pw_below_drewN|apply below_drew1|refine below_set ?_ GE212.out|refine below_set ?_ GE214.out)|exact HB.out))));have n2_:=aK (blk_below (g:=gb212) (o:=.cells #[.int .i64 ((rd_T31 l1 x30_1).f0),.int .i64 ((rd_T31 l1 x30_1).f1)] 31 (0,0)) (by (with_reducible repeat (first|refine blk_drewN ?_ _|refine blk_drew ?_|refine blk_alloc ?_ _));exact BK212.out) hb);have n3_:=aK (blk_below (g:=gb214) (o:=.cells #[.int .i64 ((rd_T31 l1 (ji17)).f0),.int .i64 ((rd_T31 l1 (ji17)).f1)] 31 (0,0)) (by (with_reducible repeat (first|refine blk_drewN ?_ _|refine blk_drew ?_|refine blk_alloc ?_ _));exact BK214.out) hb);have n4_:=aK (below_step (by repeat (first|(with_reducible first|exact HB.out|apply below_alloc|apply pw_below_drewN|apply below_drew1|refine below_set ?_ GE212.out|refine below_set ?_ GE214.out)|exact HB.out)) hb);clear HO_9;clear BK212;clear BK214;clear HB;have HO_9:=n0_;have HO217:=n1_;have BK212:=n2_;have BK214:=n3_;have HB:=n4_;clear n0_ n1_ n2_ n3_ n4_;(try clear hb);(try clear hb2);(try clear hk);(try clear hi);(try clear ho0);obtain ⟨Ao53,co53,eo53⟩:=Kd.R_slice HO217.out;subst eo53;obtain ⟨Ao54,co54,eo54⟩:=Kd.R_slice HO_9.out;subst eo54)|((with_reducible refine gate_callee (f:=45) rfl ?_);refine goesL_ (some 76) rfl rfl Try.func45 (by kernel_rfl) rfl #[.slice Ao53 t215.length co53,.int .i64 t199,.slice Ao54 x9_1.length co54] rfl (by (try simp only [List.map_toArray,List.map_cons,List.map_nil]);first|done|rfl|(simp only [List.length_drop,List.length_take];rfl)) ?_;(with_reducible refine (scan_cover.calls kj19 _ _ t215 t199 (fun k_=>some k_=(.slice Ao54 x9_1.length co54:Value).ownBlock) (.slice Ao54 x9_1.length co54) x9_1 t218 w _ ?side1 ?side2 ?side3 ?side4 A48.out).mono ?_);(case side1=>repeat (first|(with_reducible first|exact HB.out|apply below_alloc|apply pw_below_drewN|apply below_drew1|refine below_set ?_ GE212.out|refine below_set ?_ GE214.out)|exact HB.out));(case side2=>exact Kd.C_kept_own ((Kd.R_apart' HO217.out (Kd.R_typed HO_9.out) (by decide))) (fun k_ hk_ hs_=>(hk_.2) hs_));(case side3=>exact (Kd.R_reads' HO217.out).2.1);(case side4=>exact Kd.R_tight rfl HO_9.out);rintro e w55 ⟨rfl,hy0,hb,hkp⟩;refine ⟨_,rfl,?_⟩;have n0_:=aK (Kd.R_reok rfl hy0 (fun k_ e_=>HO_9.out.1 k_ e_));have n1_:=aK (blk_kept (by (with_reducible repeat (first|refine blk_drewN ?_ _|refine blk_drew ?_|refine blk_alloc ?_ _));exact BK212.out) hkp (fun hs_=>(fun e_=>(Kd.R_ne HO_9.out BK212.out (by decide)) e_) hs_));have n2_:=aK (blk_kept (by (with_reducible repeat (first|refine blk_drewN ?_ _|refine blk_drew ?_|refine blk_alloc ?_ _));exact BK214.out) hkp (fun hs_=>(fun e_=>(Kd.R_ne HO_9.out BK214.out (by decide)) e_) hs_));have n3_:=aK (Kd.R_mono (ok':=fun k_=>k_≠gb212∧k_≠gb214) (Kd.R_keptB ((Kd.R_apart' HO217.out (Kd.R_typed HO_9.out) (by decide))) hkp (fun k_ hk_ hs_=>(hk_.2) hs_)) (fun k_ hk_=>⟨hk_.1.1.1.2,hk_.1.1.2⟩));have n4_:=aK (hb);clear HO_9;clear BK212;clear BK214;clear HO217;clear HB;have HO_9:=n0_;have BK212:=n1_;have BK214:=n2_;have HO217:=n3_;have HB:=n4_;clear n0_ n1_ n2_ n3_ n4_;(try clear hb);(try clear hkp);(try clear hy0)))
             go_roundg kj19
             case measure=>have:=HK1.out;have:=HJ19.out;omega
             case rel=>exact ⟨(t218),(wrap64 (x30_1+1)),(by first|rfl|(simp;done)|(simp [*];done)),H',⟨by have:=HK1.out;have:=HJ19.out;omega⟩,⟨by (with_reducible repeat (first|apply Kd.R_alloc|apply Kd.R_drewN|apply Kd.R_drew));exact HO_9.out⟩,⟨by repeat (first|(with_reducible first|exact HB.out|apply below_alloc|apply pw_below_drewN|apply below_drew1|refine below_set ?_ GE212.out|refine below_set ?_ GE214.out)|exact HB.out)⟩⟩
         ·rw [if_neg c19] at H
          exact absurd H (by simp)
        ·rw [if_neg c18] at H
         exact absurd H (by simp)
       ·rw [if_neg c16] at H
        exact absurd H (by simp)
      ·rw [if_neg c15] at H
       exact absurd H (by simp)
     ·rw [if_neg c14] at H
      have c14b0:decide (x30_1<(l1.length:Int))=false:=decide_eq_false c14
      clear c14
      replace H:=Option.bind_eq_some_iff.mp H
      obtain ⟨t208,A560,H⟩:=H
      replace H:(some t208)=some r:=H
      have A56:=aK A560
      clear A560
      obtain rfl:=Option.some.inj H
      obtain ⟨Ao57,co57,eo57⟩:=Kd.R_slice HO_9.out
      subst eo57
      go_wp2_with ((with_reducible refine gate_callee (f:=31) rfl ?_);refine goesL_ (some 79) rfl rfl Try.func31 (by kernel_rfl) rfl #[.slice Ao57 x9_1.length co57] rfl (by (try simp only [List.map_toArray,List.map_cons,List.map_nil]);first|done|rfl|(simp only [List.length_drop,List.length_take];rfl)) ?_;(with_reducible refine (scan_spans.calls k1 _ _ x9_1 t208 _ ?side1 ?side2 A56.out).mono ?_);(case side1=>repeat (first|exact (Kd.R_reads' HO_9.out).2.2|(with_reducible refine Kd.C_alloc ?_ _)|(with_reducible refine Kd.C_drewN ?_ _)|(with_reducible refine Kd.C_drew ?_)));(case side2=>exact (Kd.R_reads' HO_9.out).2.1);rintro e w58 ⟨v209,rfl,ho0,hb⟩;refine ⟨_,rfl,?_⟩;have n0_:=aK (Kd.R_below (by (with_reducible repeat (first|apply Kd.R_alloc|apply Kd.R_drewN|apply Kd.R_drew));exact HO_9.out) hb);have n1_:=aK (Kd.R_lower ho0 (below_size (by repeat (first|(with_reducible first|exact HB.out|apply below_alloc|apply pw_below_drewN|apply below_drew1)|exact HB.out))));have n2_:=aK (below_step (by repeat (first|(with_reducible first|exact HB.out|apply below_alloc|apply pw_below_drewN|apply below_drew1)|exact HB.out)) hb);clear HO_9;clear HB;have HO_9:=n0_;have HO210:=n1_;have HB:=n2_;clear n0_ n1_ n2_;(try clear hb);(try clear hb2);(try clear hk);(try clear hi);(try clear ho0))
      go_ret
      exact ⟨_,by first|rfl|(simp [errW_none,errW_some] <;> rfl)|(simp [*,errW_none,errW_some] <;> rfl),by (with_reducible repeat (first|apply Kd.R_alloc|apply Kd.R_drewN|apply Kd.R_drew));exact HO210.out,by repeat (first|(with_reducible first|exact HB.out|apply below_alloc|apply pw_below_drewN|apply below_drew1)|exact HB.out)⟩
  ·rw [if_neg c6] at H
   exact absurd H (by simp)
 ·rw [if_neg c5] at H
  exact absurd H (by simp)
def scan_Pen.f (k:Nat) (l0:List (S31)) (l1:List (S31)) (a2:Int) (a3:Int):Option ((List (S36))×Int):=(pen_Valid.f l0).bind fun t219=>(if t219=true then ((pen_ValidLine.f l1).bind fun t220=>(if t220=true then ((scan_isRow.f a2 a3).bind fun t221=>(if t221=true then ((scan_Covered.f k l0 l1 a2 a3).bind fun t222=>(some (t222,0))) else (some (([]:List (S36)),2)))) else (some (([]:List (S36)),2)))) else (some (([]:List (S36)),2)))
theorem scan_Pen.mono : ∀ a0 a1 a2 a3 k,LeO (scan_Pen.f k a0 a1 a2 a3) (scan_Pen.f (k+1) a0 a1 a2 a3):=by
 intro a0 a1 a2 a3 k
 unfold scan_Pen.f
 repeat' first
   | (with_reducible exact scan_Covered.mono _ _ _ _ _)
   | (with_reducible exact LeO.refl _)
   | (with_reducible exact LeO.none _)
   | (with_reducible refine LeO.ite ?_ ?_)
   | (with_reducible refine LeO.bind ?_ (fun _=>?_))
   | exact scan_Covered.mono _ _ _ _ _
   | exact LeO.none _
   | refine LeO.ite ?_ ?_
   | refine LeO.bind ?_ (fun _=>?_)
set_option maxHeartbeats 8000000 in
theorem scan_Pen.calls (k : Nat) (A0 : Option Addr) (c0 : Nat) (l0 : List (S31)) (A1 : Option Addr) (c1 : Nat) (l1 : List (S31)) (a2 : Int) (a3 : Int) (r1 : List (S36)) (r2 : Int) (w : World) (hr0 : Kd.C k31 w A0 l0.length l0) (hc0 : l0.length ≤ c0) (hr1 : Kd.C k31 w A1 l1.length l1) (hc1 : l1.length ≤ c1) (h : scan_Pen.f k l0 l1 a2 a3 = some (r1, r2)) :
  Calls Try.prog 11 #[.slice A0 l0.length c0,.slice A1 l1.length c1,.int .i64 a2,.int .i64 a3] w fun e w'=>∃ v0_:Value,e = .returned (.tuple #[v0_,.int .i64 r2])∧Kd.R k36 36 w' w.heap.size (fun _=>True) v0_ r1∧Below w.heap.size w w':=by
 have HR0:=aK hr0
 have HC0:=aK hc0
 clear hr0 hc0
 have HR1:=aK hr1
 have HC1:=aK hc1
 clear hr1 hc1
 have HB:=aK (Below.refl w.heap.size w)
 have H:((pen_Valid.f l0).bind fun t219=>(if t219=true then ((pen_ValidLine.f l1).bind fun t220=>(if t220=true then ((scan_isRow.f a2 a3).bind fun t221=>(if t221=true then ((scan_Covered.f k l0 l1 a2 a3).bind fun t222=>(some (t222,0))) else (some (([]:List (S36)),2)))) else (some (([]:List (S36)),2)))) else (some (([]:List (S36)),2))))=some (r1,r2):=h
 clear h
 replace H:=Option.bind_eq_some_iff.mp H
 obtain ⟨t219,A50,H⟩:=H
 replace H:(if t219=true then ((pen_ValidLine.f l1).bind fun t220=>(if t220=true then ((scan_isRow.f a2 a3).bind fun t221=>(if t221=true then ((scan_Covered.f k l0 l1 a2 a3).bind fun t222=>(some (t222,0))) else (some (([]:List (S36)),2)))) else (some (([]:List (S36)),2)))) else (some (([]:List (S36)),2)))=some (r1,r2):=H
 have A5:=aK A50
 clear A50
 by_cases c6:t219=true
 ·subst c6
  have H1:((pen_ValidLine.f l1).bind fun t220=>(if t220=true then ((scan_isRow.f a2 a3).bind fun t221=>(if t221=true then ((scan_Covered.f k l0 l1 a2 a3).bind fun t222=>(some (t222,0))) else (some (([]:List (S36)),2)))) else (some (([]:List (S36)),2))))=some (r1,r2):=by rw [if_pos rfl] at H;exact H
  clear H
  have H:=H1
  clear H1
  replace H:=Option.bind_eq_some_iff.mp H
  obtain ⟨t220,A70,H⟩:=H
  replace H:(if t220=true then ((scan_isRow.f a2 a3).bind fun t221=>(if t221=true then ((scan_Covered.f k l0 l1 a2 a3).bind fun t222=>(some (t222,0))) else (some (([]:List (S36)),2)))) else (some (([]:List (S36)),2)))=some (r1,r2):=H
  have A7:=aK A70
  clear A70
  by_cases c8:t220=true
  ·subst c8
   have H1:((scan_isRow.f a2 a3).bind fun t221=>(if t221=true then ((scan_Covered.f k l0 l1 a2 a3).bind fun t222=>(some (t222,0))) else (some (([]:List (S36)),2))))=some (r1,r2):=by rw [if_pos rfl] at H;exact H
   clear H
   have H:=H1
   clear H1
   replace H:=Option.bind_eq_some_iff.mp H
   obtain ⟨t221,A90,H⟩:=H
   replace H:(if t221=true then ((scan_Covered.f k l0 l1 a2 a3).bind fun t222=>(some (t222,0))) else (some (([]:List (S36)),2)))=some (r1,r2):=H
   have A9:=aK A90
   clear A90
   by_cases c10:t221=true
   ·subst c10
    have H1:((scan_Covered.f k l0 l1 a2 a3).bind fun t222=>(some (t222,0)))=some (r1,r2):=by rw [if_pos rfl] at H;exact H
    clear H
    have H:=H1
    clear H1
    replace H:=Option.bind_eq_some_iff.mp H
    obtain ⟨t222,A110,H⟩:=H
    replace H:(some (t222,0))=some (r1,r2):=H
    have A11:=aK A110
    clear A110
    simp only [Option.some.injEq,Prod.mk.injEq] at H
    obtain ⟨rfl,rfl⟩:=H
    go_enter Try.func11,Try.ntmps11
    go_wp2_with (first|((with_reducible refine gate_callee (f:=22) rfl ?_);refine goesL_ (some 11) rfl rfl Try.func22 (by kernel_rfl) rfl #[.slice A0 l0.length c0] rfl (by (try simp only [List.map_toArray,List.map_cons,List.map_nil]);first|done|rfl|(simp only [List.length_drop,List.length_take];rfl)) ?_;(with_reducible refine (pen_Valid.calls _ _ l0 true _ ?side1 ?side2 A5.out).mono ?_);(case side1=>repeat (first|exact HR0.out|(with_reducible refine Kd.C_alloc ?_ _)|(with_reducible refine Kd.C_drewN ?_ _)|(with_reducible refine Kd.C_drew ?_)));(case side2=>exact HC0.out);rintro e w12 ⟨rfl,hb⟩;refine ⟨_,rfl,?_⟩;have n0_:=aK (below_step (by repeat (first|(with_reducible first|exact HB.out|apply below_alloc|apply pw_below_drewN|apply below_drew1)|exact HB.out)) hb);clear HB;have HB:=n0_;clear n0_;(try clear hb);(try clear hb2);(try clear hk);(try clear hi))|(go_at_call 23;(with_reducible refine (pen_ValidLine.calls _ _ l1 true _ ?side1 ?side2 A7.out).mono ?_);(case side1=>repeat (first|exact (Kd.C_below HR1.out HB.out)|(with_reducible refine Kd.C_alloc ?_ _)|(with_reducible refine Kd.C_drewN ?_ _)|(with_reducible refine Kd.C_drew ?_)));(case side2=>exact HC1.out);rintro e w13 ⟨rfl,hb⟩;have n0_:=aK (below_step (by repeat (first|(with_reducible first|exact HB.out|apply below_alloc|apply pw_below_drewN|apply below_drew1)|exact HB.out)) hb);clear HB;have HB:=n0_;clear n0_;(try clear hb);(try clear hb2);(try clear hk);(try clear hi))|(go_at_call 20;(with_reducible refine (scan_isRow.calls a2 a3 true _ A9.out).mono ?_);rintro e w' ⟨rfl,⟨nd,rfl⟩⟩)|((with_reducible refine gate_callee (f:=24) rfl ?_);refine goesL_ (some 28) rfl rfl Try.func24 (by kernel_rfl) rfl #[.slice A0 l0.length c0,.slice A1 l1.length c1,.int .i64 a2,.int .i64 a3] rfl (by (try simp only [List.map_toArray,List.map_cons,List.map_nil]);first|done|rfl|(simp only [List.length_drop,List.length_take];rfl)) ?_;(with_reducible refine (scan_Covered.calls k _ _ l0 _ _ l1 a2 a3 t222 _ ?side1 ?side2 ?side3 ?side4 A11.out).mono ?_);(case side1=>repeat (first|exact (Kd.C_below HR0.out (by repeat (first|(with_reducible first|exact HB.out|apply below_alloc|apply pw_below_drewN|apply below_drew1)|exact HB.out)))|(with_reducible refine Kd.C_alloc ?_ _)|(with_reducible refine Kd.C_drewN ?_ _)|(with_reducible refine Kd.C_drew ?_)));(case side2=>exact HC0.out);(case side3=>repeat (first|exact (Kd.C_below HR1.out (by repeat (first|(with_reducible first|exact HB.out|apply below_alloc|apply pw_below_drewN|apply below_drew1)|exact HB.out)))|(with_reducible refine Kd.C_alloc ?_ _)|(with_reducible refine Kd.C_drewN ?_ _)|(with_reducible refine Kd.C_drew ?_)));(case side4=>exact HC1.out);rintro e w14 ⟨v223,rfl,ho0,hb⟩;refine ⟨_,rfl,?_⟩;have n0_:=aK (Kd.R_lower ho0 (below_size (by repeat (first|(with_reducible first|exact HB.out|apply below_alloc|apply pw_below_drewN|apply below_drew1)|exact HB.out))));have n1_:=aK (below_step (by repeat (first|(with_reducible first|exact HB.out|apply below_alloc|apply pw_below_drewN|apply below_drew1)|exact HB.out)) hb);clear HB;have HO224:=n0_;have HB:=n1_;clear n0_ n1_;(try clear hb);(try clear hb2);(try clear hk);(try clear hi);(try clear ho0)))
    go_ret2
    exact ⟨_,by first|rfl|(simp [errW_none,errW_some] <;> rfl)|(simp [*,errW_none,errW_some] <;> rfl),by (with_reducible repeat (first|apply Kd.R_alloc|apply Kd.R_drewN|apply Kd.R_drew));exact HO224.out,by repeat (first|(with_reducible first|exact HB.out|apply below_alloc|apply pw_below_drewN|apply below_drew1)|exact HB.out)⟩
   ·replace c10:=Bool.eq_false_iff.mpr c10
    subst c10
    have H1:(some (([]:List (S36)),2))=some (r1,r2):=by rw [if_neg (show ¬ (false=true) by decide)] at H;exact H
    clear H
    have H:=H1
    clear H1
    simp only [Option.some.injEq,Prod.mk.injEq] at H
    obtain ⟨rfl,rfl⟩:=H
    go_enter Try.func11,Try.ntmps11
    go_wp2_with (first|((with_reducible refine gate_callee (f:=22) rfl ?_);refine goesL_ (some 11) rfl rfl Try.func22 (by kernel_rfl) rfl #[.slice A0 l0.length c0] rfl (by (try simp only [List.map_toArray,List.map_cons,List.map_nil]);first|done|rfl|(simp only [List.length_drop,List.length_take];rfl)) ?_;(with_reducible refine (pen_Valid.calls _ _ l0 true _ ?side1 ?side2 A5.out).mono ?_);(case side1=>repeat (first|exact HR0.out|(with_reducible refine Kd.C_alloc ?_ _)|(with_reducible refine Kd.C_drewN ?_ _)|(with_reducible refine Kd.C_drew ?_)));(case side2=>exact HC0.out);rintro e w15 ⟨rfl,hb⟩;refine ⟨_,rfl,?_⟩;have n0_:=aK (below_step (by repeat (first|(with_reducible first|exact HB.out|apply below_alloc|apply pw_below_drewN|apply below_drew1)|exact HB.out)) hb);clear HB;have HB:=n0_;clear n0_;(try clear hb);(try clear hb2);(try clear hk);(try clear hi))|(go_at_call 23;(with_reducible refine (pen_ValidLine.calls _ _ l1 true _ ?side1 ?side2 A7.out).mono ?_);(case side1=>repeat (first|exact (Kd.C_below HR1.out HB.out)|(with_reducible refine Kd.C_alloc ?_ _)|(with_reducible refine Kd.C_drewN ?_ _)|(with_reducible refine Kd.C_drew ?_)));(case side2=>exact HC1.out);rintro e w16 ⟨rfl,hb⟩;have n0_:=aK (below_step (by repeat (first|(with_reducible first|exact HB.out|apply below_alloc|apply pw_below_drewN|apply below_drew1)|exact HB.out)) hb);clear HB;have HB:=n0_;clear n0_;(try clear hb);(try clear hb2);(try clear hk);(try clear hi))|(go_at_call 20;(with_reducible refine (scan_isRow.calls a2 a3 false _ A9.out).mono ?_);rintro e w' ⟨rfl,⟨nd,rfl⟩⟩))
    go_ret2
    exact ⟨_,by first|rfl|(simp [errW_none,errW_some] <;> rfl)|(simp [*,errW_none,errW_some] <;> rfl),by first|exact Kd.R_nil _ _ _ _ _|exact Kd.N_nil _ _ _ _ _|exact Kd.V_nil _ _ _ _ _|exact Kd.Q_nil _ _ _ _ _|exact Kd.S_nil _ _ _ _ _,by repeat (first|(with_reducible first|exact HB.out|apply below_alloc|apply pw_below_drewN|apply below_drew1)|exact HB.out)⟩
  ·replace c8:=Bool.eq_false_iff.mpr c8
   subst c8
   have H1:(some (([]:List (S36)),2))=some (r1,r2):=by rw [if_neg (show ¬ (false=true) by decide)] at H;exact H
   clear H
   have H:=H1
   clear H1
   simp only [Option.some.injEq,Prod.mk.injEq] at H
   obtain ⟨rfl,rfl⟩:=H
   go_enter Try.func11,Try.ntmps11
   go_wp2_with (first|((with_reducible refine gate_callee (f:=22) rfl ?_);refine goesL_ (some 11) rfl rfl Try.func22 (by kernel_rfl) rfl #[.slice A0 l0.length c0] rfl (by (try simp only [List.map_toArray,List.map_cons,List.map_nil]);first|done|rfl|(simp only [List.length_drop,List.length_take];rfl)) ?_;(with_reducible refine (pen_Valid.calls _ _ l0 true _ ?side1 ?side2 A5.out).mono ?_);(case side1=>repeat (first|exact HR0.out|(with_reducible refine Kd.C_alloc ?_ _)|(with_reducible refine Kd.C_drewN ?_ _)|(with_reducible refine Kd.C_drew ?_)));(case side2=>exact HC0.out);rintro e w17 ⟨rfl,hb⟩;refine ⟨_,rfl,?_⟩;have n0_:=aK (below_step (by repeat (first|(with_reducible first|exact HB.out|apply below_alloc|apply pw_below_drewN|apply below_drew1)|exact HB.out)) hb);clear HB;have HB:=n0_;clear n0_;(try clear hb);(try clear hb2);(try clear hk);(try clear hi))|(go_at_call 23;(with_reducible refine (pen_ValidLine.calls _ _ l1 false _ ?side1 ?side2 A7.out).mono ?_);(case side1=>repeat (first|exact (Kd.C_below HR1.out HB.out)|(with_reducible refine Kd.C_alloc ?_ _)|(with_reducible refine Kd.C_drewN ?_ _)|(with_reducible refine Kd.C_drew ?_)));(case side2=>exact HC1.out);rintro e w18 ⟨rfl,hb⟩;have n0_:=aK (below_step (by repeat (first|(with_reducible first|exact HB.out|apply below_alloc|apply pw_below_drewN|apply below_drew1)|exact HB.out)) hb);clear HB;have HB:=n0_;clear n0_;(try clear hb);(try clear hb2);(try clear hk);(try clear hi)))
   go_ret2
   exact ⟨_,by first|rfl|(simp [errW_none,errW_some] <;> rfl)|(simp [*,errW_none,errW_some] <;> rfl),by first|exact Kd.R_nil _ _ _ _ _|exact Kd.N_nil _ _ _ _ _|exact Kd.V_nil _ _ _ _ _|exact Kd.Q_nil _ _ _ _ _|exact Kd.S_nil _ _ _ _ _,by repeat (first|(with_reducible first|exact HB.out|apply below_alloc|apply pw_below_drewN|apply below_drew1)|exact HB.out)⟩
 ·replace c6:=Bool.eq_false_iff.mpr c6
  subst c6
  have H1:(some (([]:List (S36)),2))=some (r1,r2):=by rw [if_neg (show ¬ (false=true) by decide)] at H;exact H
  clear H
  have H:=H1
  clear H1
  simp only [Option.some.injEq,Prod.mk.injEq] at H
  obtain ⟨rfl,rfl⟩:=H
  go_enter Try.func11,Try.ntmps11
  go_wp2_with ((with_reducible refine gate_callee (f:=22) rfl ?_);refine goesL_ (some 11) rfl rfl Try.func22 (by kernel_rfl) rfl #[.slice A0 l0.length c0] rfl (by (try simp only [List.map_toArray,List.map_cons,List.map_nil]);first|done|rfl|(simp only [List.length_drop,List.length_take];rfl)) ?_;(with_reducible refine (pen_Valid.calls _ _ l0 false _ ?side1 ?side2 A5.out).mono ?_);(case side1=>repeat (first|exact HR0.out|(with_reducible refine Kd.C_alloc ?_ _)|(with_reducible refine Kd.C_drewN ?_ _)|(with_reducible refine Kd.C_drew ?_)));(case side2=>exact HC0.out);rintro e w19 ⟨rfl,hb⟩;refine ⟨_,rfl,?_⟩;have n0_:=aK (below_step (by repeat (first|(with_reducible first|exact HB.out|apply below_alloc|apply pw_below_drewN|apply below_drew1)|exact HB.out)) hb);clear HB;have HB:=n0_;clear n0_;(try clear hb);(try clear hb2);(try clear hk);(try clear hi))
  go_ret2
  exact ⟨_,by first|rfl|(simp [errW_none,errW_some] <;> rfl)|(simp [*,errW_none,errW_some] <;> rfl),by first|exact Kd.R_nil _ _ _ _ _|exact Kd.N_nil _ _ _ _ _|exact Kd.V_nil _ _ _ _ _|exact Kd.Q_nil _ _ _ _ _|exact Kd.S_nil _ _ _ _ _,by repeat (first|(with_reducible first|exact HB.out|apply below_alloc|apply pw_below_drewN|apply below_drew1)|exact HB.out)⟩
instance instCr:Inhabited S64:=⟨z64⟩
def encX (x:S64):List Value:=[.int .i64 x.f0,.int .i64 x.f1]
theorem get_flatX (xs:List S64) (j:Nat) (hj:j<xs.length) (q:Nat) (hq:q<2):(Go.Sort.flatK encX 2 xs.toArray)[j*2+q]?=(encX xs[j])[q]?:=by
 have h1:j*2+q<xs.length*2:=by omega
 have h2:(j*2+q) / 2=j:=by omega
 have h3:(j*2+q) % 2=q:=by omega
 have h4:=Go.Sort.get_flatK encX 2 xs.toArray (j*2+q) (by simpa using h1)
 rw [h2,h3] at h4
 have h5:j*2+q<(Go.Sort.flatK encX 2 xs.toArray).size:=by simpa using h1
 have h6:xs.toArray[j]! = xs[j]:=by simp [hj]
 rw [h6,getElem!_pos (Go.Sort.flatK encX 2 xs.toArray) (j*2+q) h5] at h4
 rw [Array.getElem?_eq_getElem h5,h4]
 have h7:q<(encX xs[j]).length:=hq
 rw [getElem!_pos (encX xs[j]) q h7,List.getElem?_eq_getElem h7]
theorem cells_flatX {w:World} {base:Nat} {ok:Nat→Prop} {xs:List S64} {cs:List Value} (h:Reps (k64.M w base ok) k64.sz xs cs):Go.Sort.flatK encX 2 xs.toArray=cs.toArray:=by
 obtain ⟨h1,h2⟩:=h
 have h1':cs.length=xs.length*2:=h1
 apply Array.ext_getElem?
 intro t
 by_cases ht:t<xs.length*2
 ·obtain ⟨j,q,hq,rfl⟩ : ∃ j q,q<2∧t=j*2+q:=⟨t / 2,t % 2,by omega,by omega⟩
  have hj:j<xs.length:=by omega
  rw [get_flatX xs j hj q hq]
  have h3:=k64_openM (h2 j xs[j] (List.getElem?_eq_getElem hj))
  have h4:(cs.drop (j*2)).take 2=encX xs[j]:=h3
  rw [← h4,List.getElem?_take_of_lt hq,List.getElem?_drop]
  simp
 ·rw [Array.getElem?_eq_none (by simp;omega),Array.getElem?_eq_none (by simp;omega)]
theorem reps_flatX {w:World} {base:Nat} {ok:Nat→Prop} (xs:List S64):Reps (k64.M w base ok) k64.sz xs (Go.Sort.flatK encX 2 xs.toArray).toList:=by
 refine ⟨by simp;rfl,fun j p hj=>?_⟩
 obtain ⟨hx,rfl⟩:=List.getElem?_eq_some_iff.1 hj
 have h:(((Go.Sort.flatK encX 2 xs.toArray).toList.drop (j*2)).take 2)=encX xs[j]:=by
  apply List.ext_getElem?
  intro q
  by_cases hq:q<2
  ·rw [List.getElem?_take_of_lt hq,List.getElem?_drop,Array.getElem?_toList,get_flatX xs j hx q hq]
  ·rw [List.getElem?_take_eq_none (by omega),List.getElem?_eq_none (by simp [encX];omega)]
 show k64.M w base ok xs[j] (((Go.Sort.flatK encX 2 xs.toArray).toList.drop (j*2)).take 2)
 rw [h]
 exact k64_mkM w base ok xs[j]
theorem grow_of_belowX {W w':World} (h:Below W.heap.size W w') (hd:W.drawn≤w'.drawn) : ∃ q os',w'=Go.Sort.grow (W.drewN q) os':=by
 refine ⟨w'.drawn-W.drawn,w'.heap.extract W.heap.size w'.heap.size,?_⟩
 have hh:w'.heap=W.heap++w'.heap.extract W.heap.size w'.heap.size:=by
  apply Array.ext_getElem?
  intro i
  rw [Array.getElem?_append]
  by_cases hi:i<W.heap.size
  ·rw [if_pos hi];exact h.block i hi
  ·rw [if_neg hi,Array.getElem?_extract]
   have hs:=h.size
   by_cases hj:i<w'.heap.size
   ·rw [if_pos (by omega)];congr 1;omega
   ·rw [if_neg (by omega),Array.getElem?_eq_none (by omega)]
 have e1:=h.os;have e2:=h.tape;have e3:=h.output
 cases w';cases W
 simp only [Go.Sort.grow,World.drewN] at *
 subst e1;subst e2;subst e3
 congr 1
 omega
def cmpX (x y:S64):Int:=if x.f0<y.f0 then -1 else if y.f0<x.f0 then 1 else 0
set_option maxHeartbeats 4000000 in
theorem cmpX_grows (x y:S64) (W:World):Calls Try.prog 38 #[.agg #[.int .i64 x.f0,.int .i64 x.f1],.agg #[.int .i64 y.f0,.int .i64 y.f1]] W fun e w'=>e = .returned (.int .i64 (cmpX x y))∧Below W.heap.size W w'∧W.drawn≤w'.drawn:=by
 have hu:=Try.underlying64
 have HC1:=aK (fun V=>cmp_Compare_int.calls x.f0 y.f0 (cmpX x y) V (by rw [compare_int];rfl))
 generalize cmpX x y=r at *
 have X0:=blk_alloc (blk_new W (.cells #[.int .i64 x.f0,.int .i64 x.f1] 64)) (.cells #[.int .i64 y.f0,.int .i64 y.f1] 64)
 have Y0:=blk_new (W.alloc (.cells #[.int .i64 x.f0,.int .i64 x.f1] 64)) (.cells #[.int .i64 y.f0,.int .i64 y.f1] 64)
 simp only [World.size_alloc] at Y0
 have p1:=(blk_cell X0 0).trans rfl
 have p3:=(blk_cell Y0 0).trans rfl
 clear X0 Y0
 go_enter Try.func38,Try.ntmps38
 go_wp2_with fail
 refine (HC1.out _).mono ?_
 rintro e W1 ⟨rfl,⟨n1,rfl⟩⟩
 go_wp2
 go_ret
 exact ⟨rfl,pw_below_drewN (below_alloc (below_alloc (Below.refl W.heap.size W) _) _) _,by show W.drawn≤W.drawn+n1;omega⟩
theorem cmpX_lt (x y:S64):cmpX x y<0↔x.f0<y.f0:=by
 unfold cmpX
 (repeat' split) <;> omega
theorem cmpX_lays (blk off size:Nat) (w:World):CmpLays Try.prog 38 #[] encX 2 cmpX blk off size w:=fun m os dk _ x y =>
 (cmpX_grows x y _).mono fun e w' ⟨he,hb,hd⟩=>⟨he,grow_of_belowX hb hd⟩
theorem cmpX_swo:Go.Sort.SWO (ltOf cmpX):=by
 refine ⟨fun x=>?_,fun x y z h1 h2=>?_,fun x y z h1 h2=>?_⟩ <;> simp only [ltOf,decide_eq_true_eq,decide_eq_false_iff_not,cmpX_lt] at * <;> omega
def Rise (r:List S64):Prop:=r.Pairwise fun x y=>x.f0≤y.f0
theorem sortedX {l0 r:List S64} (hP:Go.Sort.PermIn 0 l0.toArray.size l0.toArray r.toArray) (hS:Go.Sort.SortedIn (ltOf cmpX) 0 l0.toArray.size r.toArray):r.Perm l0∧Rise r:=by
 obtain ⟨h1,_,h2⟩:=hP
 have hn:r.length=l0.length:=by simpa using h1
 refine ⟨?_,?_⟩
 ·have e1:(r.toArray.extract 0 l0.toArray.size).toList=r:=by simp [← hn]
  have e2:(l0.toArray.extract 0 l0.toArray.size).toList=l0:=by simp
  rwa [e1,e2] at h2
 ·unfold Rise
  rw [List.pairwise_iff_getElem]
  intro i j hi hj hij
  have h:=hS i j (Nat.zero_le _) hij (by simpa [← hn] using hj)
  have ei:r.toArray[i]! = r[i]:=by simp [hi]
  have ej:r.toArray[j]! = r[j]:=by simp [hj]
  rw [ei,ej] at h
  simp only [ltOf,decide_eq_false_iff_not,cmpX_lt] at h
  omega
theorem scan_crossing_37.calls (P0_ : Nat → Prop) (u9000_ : Value) (l0 : List S64) (w0 w : World) (hB : Below w0.heap.size w0 w) (ho0 : Kd.R k64 64 w w0.heap.size P0_ u9000_ l0) (hl : l0.length < 4611686018427387904) :
  Calls Try.prog 37 #[u9000_,.func (.func 38) #[] #[]] w fun e w'=>e = .returned (.tuple #[])∧∃ r,r.Perm l0∧Rise r∧Kd.R k64 64 w' w0.heap.size (fun k_=>(P0_ k_∨w.heap.size≤k_)) u9000_ r∧Below w0.heap.size w0 w'∧Kept w w' (fun k_=>P0_ k_):=by
 obtain ⟨h0,inner,ho,hr⟩:=ho0
 have hi:=cells_flatX hr
 rcases ho.2 with ⟨rfl,hn⟩|⟨g,cap,cur,rfl,hbase,hh,hle,hcap,hsz,htk⟩
 ·have hl0:l0=[]:=List.length_eq_zero_iff.mp hn
  subst hl0
  refine (Go.Proofs.AnyF.slices_SortFunc_none Try.sortX none 0 _ w).mono ?_
  rintro e w' ⟨rfl,rfl⟩
  exact ⟨rfl,[],List.Perm.refl _,List.Pairwise.nil,Kd.R_nil _ _ _ _ _,hB,Kept.refl _ _⟩
 ·have hk2:k64.sz=2:=rfl
  rw [hk2] at hsz htk
  have hin:inner.length=l0.length*2:=hr.1
  have hH:Go.Sort.HoldsK encX 2 w g 0 l0.toArray:=by
   unfold Go.Sort.HoldsK
   rw [hi]
   exact holds_row hh (by rw [hin];exact htk)
  have hlt:=lt_of_block hh
  refine (Go.Proofs.AnyQ.slices_SortFunc Try.sortX 2 Try.isAgg64 Try.sizeOf64 encX (fun _=>rfl) (fun x v hv=>by simp [encX] at hv;rcases hv with rfl|rfl <;> rfl) cmpX cmpX_swo 38 #[] g 0 cap l0.toArray w (enters_own Try.func38 (by kernel_rfl) rfl) (cmpX_lays _ _ _ _) hH hlt (by simpa using hl)).mono ?_
  rintro e w' ⟨rfl,d,n,os,hP,hS,rfl⟩
  obtain ⟨r,rfl⟩ : ∃ r:List S64,d=r.toArray:=⟨d.toList,by simp⟩
  obtain ⟨hperm,hrise⟩:=sortedX hP hS
  have hlen:r.length=l0.length:=hperm.length_eq
  unfold sortWorldK Go.Sort.putRowK
  have hF:(Go.Sort.flatK encX 2 r.toArray).size=l0.length*2:=by simp [hlen]
  have hg0:w.grownBy (Go.Sort.putRow id (Go.Sort.ahead w n) g 0 (Go.Sort.flatK encX 2 r.toArray)) (some g):=grownBy_row _
  have hgw : ∀ (V:World),V.grownBy (Go.Sort.grow V os) none:=fun V=>⟨rfl,rfl,rfl,by simp [Go.Sort.grow],fun k hk _=>by simp [Go.Sort.grow,Array.getElem?_append,hk]⟩
  have hg:w.grownBy (Go.Sort.grow (Go.Sort.putRow id (Go.Sort.ahead w n) g 0 (Go.Sort.flatK encX 2 r.toArray)) os) (some g):=by
   have h2:=hgw (Go.Sort.putRow id (Go.Sort.ahead w n) g 0 (Go.Sort.flatK encX 2 r.toArray))
   exact ⟨h2.os.trans hg0.os,h2.tape.trans hg0.tape,h2.output.trans hg0.output,Nat.le_trans hg0.size h2.size,fun k hk hne=>(h2.block k (Nat.lt_of_lt_of_le hk hg0.size) (by simp)).trans (hg0.block k hk hne)⟩
  have hok:P0_ g:=h0 g (by simp [Value.ownBlock])
  refine ⟨rfl,r,hperm,hrise,?_,?_,?_⟩
  ·refine ⟨fun k hk=>Or.inl (h0 k hk),(Go.Sort.flatK encX 2 r.toArray).toList,?_,reps_flatX r⟩
   have hb2:(Go.Sort.grow (Go.Sort.putRow id (Go.Sort.ahead w n) g 0 (Go.Sort.flatK encX 2 r.toArray)) os).heap[g]?=some (.cells (Go.Sort.putCells id 0 (Go.Sort.flatK encX 2 r.toArray) cur) 64 (0,0)):=by
    have h2:=(hgw (Go.Sort.putRow id (Go.Sort.ahead w n) g 0 (Go.Sort.flatK encX 2 r.toArray))).block g (Nat.lt_of_lt_of_le hlt hg0.size) (by simp)
    rw [h2]
    exact heap_row _ hh
   refine ⟨by rw [hk2,Array.length_toList,hF,hlen],.inr ⟨g,cap,_,by rw [hlen],hbase,hb2,by omega,hcap,by rw [hk2];simp [Go.Sort.putCells,hsz],?_⟩⟩
   have:=take_row cur (Go.Sort.flatK encX 2 r.toArray) (by rw [hF,hsz];omega)
   rw [hk2,hlen]
   rw [hF] at this
   exact this
  ·exact hB.grown hg hB.size (fun k hk=>by injection hk with hk;omega)
  ·exact Kept.of_grown hg (Kept.refl w _) (fun k hk=>by injection hk with hk;subst hk;exact Or.inl hok)
end Go.Proofs.Ytckjlckhjcbddaa.PH3
