import Derived.Test.YtckjlckhjcbddaaGreatPG3x0
import Derived.Test.YtckjlckhjcbddaaGreatPG3x17
import Derived.Test.YtckjlckhjcbddaaGreatPG3x18
import Derived.Test.YtckjlckhjcbddaaGreatPG3x19
import Derived.Test.YtckjlckhjcbddaaGreatPG3x20
import Derived.Test.YtckjlckhjcbddaaGreatPG3x23
namespace Go.Proofs.YtckjlckhjcbddaaGreat.PG3
open Go.RowKit Go.Proofs.YtckjlckhjcbddaaGreatW.PrintWords Go.Proofs.YtckjlckhjcbddaaGreatW.PrintLast Go.Proofs.YtckjlckhjcbddaaGreatW.PrintMore
attribute [local go_sem] max2_int min2_int max_two min_two max_three min_three max_four min_four
set_option linter.unusedVariables false
set_option linter.unusedSimpArgs false
mutual
def fleuronref19_Row.j0:Nat→List (List (S47))→Bool→Int→Int→Bool→Option ((List (S23))×Int)
 | 0,_,_,_,_,_=>none
 | k+1,x0,x1,x2,x3,x20=>if x20=true then (some (([]:List (S23)),2)) else (fleuronref19_Row.l0 k x0 x1 x3 ([]:List Bool) x2 0)
def fleuronref19_Row.l0:Nat→List (List (S47))→Bool→Int→List Bool→Int→Int→Option ((List (S23))×Int)
 | 0,_,_,_,_,_,_=>none
 | k+1,x0,x1,x3,x10,x21,x22=>if x22<x21 then ((fleuronref19_Sample.f x22 x3).bind fun bt224=>((fleuronref17_Within.f k x0 x1 bt224.1 bt224.2).bind fun t226=>(if x10.length<140737488355328 then (fleuronref19_Row.l0 k x0 x1 x3 (x10++[t226]) x21 (wrap64 (x22+1))) else (none)))) else ((fleuronref19_Spans.f k x10).bind fun t230=>(some (t230,0)))
end
def fleuronref19_Row.f (k:Nat) (l0:List (List (S47))) (a1:Bool) (a2:Int) (a3:Int):Option ((List (S23))×Int):=(fleuronref17_Some.f k l0).bind fun t222=>(if t222=true then ((fleuronref19_row.f a2 a3).bind fun t223=>(fleuronref19_Row.j0 k l0 a1 a2 a3 (!t223))) else (fleuronref19_Row.j0 k l0 a1 a2 a3 true))
theorem fleuronref19_Row.mono_l : ∀ k,(∀ y0 y1 y2 y3 y4,LeO (fleuronref19_Row.j0 k y0 y1 y2 y3 y4) (fleuronref19_Row.j0 (k+1) y0 y1 y2 y3 y4))∧(∀ y0 y1 y2 y3 y4 y5,LeO (fleuronref19_Row.l0 k y0 y1 y2 y3 y4 y5) (fleuronref19_Row.l0 (k+1) y0 y1 y2 y3 y4 y5))
 | 0=>⟨fun _ _ _ _ _ r h=>by simp [fleuronref19_Row.j0] at h,fun _ _ _ _ _ _ r h=>by simp [fleuronref19_Row.l0] at h⟩
 | k+1=>by
  obtain ⟨ih0,ih1⟩:=fleuronref19_Row.mono_l k
  refine ⟨?_,?_⟩
  ·intro y0 y1 y2 y3 y4
   unfold fleuronref19_Row.j0
   repeat' first
   | (with_reducible exact ih0 _ _ _ _ _)
   | (with_reducible exact ih1 _ _ _ _ _ _)
   | (with_reducible exact fleuronref17_Some.mono _ _)
   | (with_reducible exact fleuronref17_Within.mono _ _ _ _ _)
   | (with_reducible exact fleuronref19_Spans.mono _ _)
   | (with_reducible exact LeO.refl _)
   | (with_reducible exact LeO.none _)
   | (with_reducible refine LeO.ite ?_ ?_)
   | (with_reducible refine LeO.bind ?_ (fun _=>?_))
   | exact ih0 _ _ _ _ _
   | exact ih1 _ _ _ _ _ _
   | exact fleuronref17_Some.mono _ _
   | exact fleuronref17_Within.mono _ _ _ _ _
   | exact fleuronref19_Spans.mono _ _
   | exact LeO.none _
   | refine LeO.ite ?_ ?_
   | refine LeO.bind ?_ (fun _=>?_)
  ·intro y0 y1 y2 y3 y4 y5
   unfold fleuronref19_Row.l0
   repeat' first
   | (with_reducible exact ih0 _ _ _ _ _)
   | (with_reducible exact ih1 _ _ _ _ _ _)
   | (with_reducible exact fleuronref17_Some.mono _ _)
   | (with_reducible exact fleuronref17_Within.mono _ _ _ _ _)
   | (with_reducible exact fleuronref19_Spans.mono _ _)
   | (with_reducible exact LeO.refl _)
   | (with_reducible exact LeO.none _)
   | (with_reducible refine LeO.ite ?_ ?_)
   | (with_reducible refine LeO.bind ?_ (fun _=>?_))
   | exact ih0 _ _ _ _ _
   | exact ih1 _ _ _ _ _ _
   | exact fleuronref17_Some.mono _ _
   | exact fleuronref17_Within.mono _ _ _ _ _
   | exact fleuronref19_Spans.mono _ _
   | exact LeO.none _
   | refine LeO.ite ?_ ?_
   | refine LeO.bind ?_ (fun _=>?_)
theorem fleuronref19_Row.mono : ∀ a0 a1 a2 a3 k,LeO (fleuronref19_Row.f k a0 a1 a2 a3) (fleuronref19_Row.f (k+1) a0 a1 a2 a3):=by
 intro a0 a1 a2 a3 k
 obtain ⟨ih0,ih1⟩:=fleuronref19_Row.mono_l k
 unfold fleuronref19_Row.f
 repeat' first
   | (with_reducible exact ih0 _ _ _ _ _)
   | (with_reducible exact ih1 _ _ _ _ _ _)
   | (with_reducible exact fleuronref17_Some.mono _ _)
   | (with_reducible exact fleuronref17_Within.mono _ _ _ _ _)
   | (with_reducible exact fleuronref19_Spans.mono _ _)
   | (with_reducible exact LeO.refl _)
   | (with_reducible exact LeO.none _)
   | (with_reducible refine LeO.ite ?_ ?_)
   | (with_reducible refine LeO.bind ?_ (fun _=>?_))
   | exact ih0 _ _ _ _ _
   | exact ih1 _ _ _ _ _ _
   | exact fleuronref17_Some.mono _ _
   | exact fleuronref17_Within.mono _ _ _ _ _
   | exact fleuronref19_Spans.mono _ _
   | exact LeO.none _
   | refine LeO.ite ?_ ?_
   | refine LeO.bind ?_ (fun _=>?_)
set_option maxHeartbeats 8000000 in
set_option maxRecDepth 100000 in
theorem fleuronref19_Row.calls (k:Nat) (A0:Option Addr) (c0:Nat) (l0:List (List (S47))) (a1:Bool) (a2:Int) (a3:Int) (r1:List (S23)) (r2:Int) (w:World) (hr0:Kd.C (Kd.slice 47 k47) w A0 l0.length l0) (hc0:l0.length≤c0) (h:fleuronref19_Row.f k l0 a1 a2 a3=some (r1,r2)) :
  Calls Tryz.prog 11 #[.slice A0 l0.length c0,.bool a1,.int .i64 a2,.int .i64 a3] w fun e w'=>∃ v0_:Value,e = .returned (.tuple #[v0_,.int .i64 r2])∧Kd.R k23 23 w' w.heap.size (fun _=>True) v0_ r1∧Below w.heap.size w w':=by
 have HR0:=aK hr0
 have HC0:=aK hc0
 clear hr0 hc0
 have HB:=aK (Below.refl w.heap.size w)
 have H:((fleuronref17_Some.f k l0).bind fun t222=>(if t222=true then ((fleuronref19_row.f a2 a3).bind fun t223=>(fleuronref19_Row.j0 k l0 a1 a2 a3 (!t223))) else (fleuronref19_Row.j0 k l0 a1 a2 a3 true)))=some (r1,r2):=h
 clear h
 have HC5:=aK H
 clear H
 go_enter Tryz.func11,Tryz.ntmps11
 go_upto_region 1 with (fail)
 go_cut [20] (fun v20 wc=>∃ (kq:Nat) (x20_4:Bool),v20 = .bool x20_4∧Aside0 (fleuronref19_Row.j0 kq l0 a1 a2 a3 x20_4=some (r1,r2))∧Aside0 (kq≤k)∧Aside0 (Below w.heap.size w wc))
 case first =>
  have H:=HC5.out
  clear HC5
  replace H:=Option.bind_eq_some_iff.mp H
  obtain ⟨t222,A60,H⟩:=H
  replace H:(if t222=true then ((fleuronref19_row.f a2 a3).bind fun t223=>(fleuronref19_Row.j0 k l0 a1 a2 a3 (!t223))) else (fleuronref19_Row.j0 k l0 a1 a2 a3 true))=some (r1,r2):=H
  have A6:=aK A60
  clear A60
  by_cases c7:t222=true
  ·subst c7
   have H1:((fleuronref19_row.f a2 a3).bind fun t223=>(fleuronref19_Row.j0 k l0 a1 a2 a3 (!t223)))=some (r1,r2):=by rw [if_pos rfl] at H;exact H
   clear H
   have H:=H1
   clear H1
   replace H:=Option.bind_eq_some_iff.mp H
   obtain ⟨t223,A80,H⟩:=H
   replace H:(fleuronref19_Row.j0 k l0 a1 a2 a3 (!t223))=some (r1,r2):=H
   have A8:=aK A80
   clear A80
   have H':=aK H
   clear H
   go_wp2_with (first|((with_reducible refine gate_callee (f:=27) rfl ?_);refine goesL_ (some 13) rfl rfl Tryz.func27 (by kernel_rfl) rfl #[.slice A0 l0.length c0] rfl (by (try simp only [List.map_toArray,List.map_cons,List.map_nil]);first|done|rfl|(simp only [List.length_drop,List.length_take];rfl)) ?_;(with_reducible refine (fleuronref17_Some.calls k _ _ l0 true _ ?side1 ?side2 A6.out).mono ?_);(case side1=>repeat (first|exact (Kd.C_below HR0.out HB.out)|(with_reducible refine Kd.C_alloc ?_ _)|(with_reducible refine Kd.C_drewN ?_ _)|(with_reducible refine Kd.C_drew ?_)));(case side2=>exact HC0.out);rintro e w9 ⟨rfl,hb⟩;refine ⟨_,rfl,?_⟩;have n0_:=aK (below_step (by repeat (first|(with_reducible first|exact HB.out|apply below_alloc|apply pw_below_drewN|apply below_drew1)|exact HB.out)) hb);clear HB;have HB:=n0_;clear n0_;(try clear hb);(try clear hb2);(try clear hk);(try clear hi))|(go_at_call 36;(with_reducible refine (fleuronref19_row.calls a2 a3 t223 _ A8.out).mono ?_);rintro e w' ⟨rfl,⟨nd,rfl⟩⟩))
   go_meet
   case rel=>exact ⟨_,(!t223),(by first|rfl|(simp;done)|(simp [*];done)),H',⟨by first|omega|exact Nat.le_refl _⟩,⟨by repeat (first|(with_reducible first|exact HB.out|apply below_alloc|apply pw_below_drewN|apply below_drew1)|exact HB.out)⟩⟩
  ·replace c7:=Bool.eq_false_iff.mpr c7
   subst c7
   have H1:(fleuronref19_Row.j0 k l0 a1 a2 a3 true)=some (r1,r2):=by rw [if_neg (show ¬ (false=true) by decide)] at H;exact H
   clear H
   have H:=H1
   clear H1
   have H':=aK H
   clear H
   go_wp2_with ((with_reducible refine gate_callee (f:=27) rfl ?_);refine goesL_ (some 13) rfl rfl Tryz.func27 (by kernel_rfl) rfl #[.slice A0 l0.length c0] rfl (by (try simp only [List.map_toArray,List.map_cons,List.map_nil]);first|done|rfl|(simp only [List.length_drop,List.length_take];rfl)) ?_;(with_reducible refine (fleuronref17_Some.calls k _ _ l0 false _ ?side1 ?side2 A6.out).mono ?_);(case side1=>repeat (first|exact (Kd.C_below HR0.out HB.out)|(with_reducible refine Kd.C_alloc ?_ _)|(with_reducible refine Kd.C_drewN ?_ _)|(with_reducible refine Kd.C_drew ?_)));(case side2=>exact HC0.out);rintro e w10 ⟨rfl,hb⟩;refine ⟨_,rfl,?_⟩;have n0_:=aK (below_step (by repeat (first|(with_reducible first|exact HB.out|apply below_alloc|apply pw_below_drewN|apply below_drew1)|exact HB.out)) hb);clear HB;have HB:=n0_;clear n0_;(try clear hb);(try clear hb2);(try clear hk);(try clear hi))
   go_meet
   case rel=>exact ⟨_,(true),(by first|rfl|(simp;done)|(simp [*];done)),H',⟨by first|omega|exact Nat.le_refl _⟩,⟨by repeat (first|(with_reducible first|exact HB.out|apply below_alloc|apply pw_below_drewN|apply below_drew1)|exact HB.out)⟩⟩
 case rest =>
  clear HC5
  try clear c1
  try clear c2
  try clear p2
  try clear c7
  obtain ⟨kq,x20_4,rfl,HA,HJ4,HB⟩:=hcut
  cases kq with
  | zero=>exact absurd HA.out (by simp [fleuronref19_Row.j0])
  | succ kj4 =>
   have H:=HA.out
   clear HA
   simp only [fleuronref19_Row.j0] at H
   by_cases c11:x20_4=true
   ·subst c11
    have H1:(some (([]:List (S23)),2))=some (r1,r2):=by rw [if_pos rfl] at H;exact H
    clear H
    have H:=H1
    clear H1
    simp only [Option.some.injEq,Prod.mk.injEq] at H
    obtain ⟨rfl,rfl⟩:=H
    go_wp2
    go_ret2
    exact ⟨_,by first|rfl|(simp [errW_none,errW_some] <;> rfl)|(simp [*,errW_none,errW_some] <;> rfl),by first|exact Kd.R_nil _ _ _ _ _|exact Kd.N_nil _ _ _ _ _|exact Kd.V_nil _ _ _ _ _|exact Kd.Q_nil _ _ _ _ _|exact Kd.S_nil _ _ _ _ _,by repeat (first|(with_reducible first|exact HB.out|apply below_alloc|apply pw_below_drewN|apply below_drew1)|exact HB.out)⟩
   ·replace c11:=Bool.eq_false_iff.mpr c11
    subst c11
    have H1:(fleuronref19_Row.l0 kj4 l0 a1 a3 ([]:List Bool) a2 0)=some (r1,r2):=by rw [if_neg (show ¬ (false=true) by decide)] at H;exact H
    clear H
    have H:=H1
    clear H1
    have H':=aK H
    clear H
    go_wp2
    go_loopg [10,22] kj4 (fun kq v10 v22 w'=>∃ (x10_2:List Bool) (x22_2:Int),v22 = .int .i64 x22_2∧Aside0 (fleuronref19_Row.l0 kq l0 a1 a3 x10_2 a2 x22_2=some (r1,r2))∧Aside0 (kq≤kj4)∧Aside0 (Kd.R Kd.bool 4 w' w.heap.size (fun _=>True) v10 x10_2)∧Aside0 (Below w.heap.size w w'))
    case atStart=>exact ⟨(([]:List Bool)),(0),(by first|rfl|(simp;done)|(simp [*];done)),H',⟨Nat.le_refl _⟩,⟨by first|exact Kd.R_nil _ _ _ _ _|exact Kd.N_nil _ _ _ _ _|exact Kd.V_nil _ _ _ _ _|exact Kd.Q_nil _ _ _ _ _|exact Kd.S_nil _ _ _ _ _⟩,⟨by repeat (first|(with_reducible first|exact HB.out|apply below_alloc|apply pw_below_drewN|apply below_drew1)|exact HB.out)⟩⟩
    case round =>
     clear H'
     try clear c1
     try clear c2
     try clear p2
     try clear c7
     try clear c11
     try clear p2
     obtain ⟨x10_2,x22_2,rfl,HA,HK2,HO_10,HB⟩:=hrel
     cases gk with
     | zero=>exact absurd HA.out (by simp [fleuronref19_Row.l0])
     | succ k2 =>
      have H:=HA.out
      clear HA
      simp only [fleuronref19_Row.l0] at H
      by_cases c12:x22_2<a2
      ·rw [if_pos c12] at H
       have c12b0:decide (x22_2<a2)=true:=decide_eq_true c12
       clear c12
       replace H:=Option.bind_eq_some_iff.mp H
       obtain ⟨⟨t224,t225⟩,A130,H⟩:=H
       replace H:((fleuronref17_Within.f k2 l0 a1 t224 t225).bind fun t226=>(if x10_2.length<140737488355328 then (fleuronref19_Row.l0 k2 l0 a1 a3 (x10_2++[t226]) a2 (wrap64 (x22_2+1))) else (none)))=some (r1,r2):=H
       have A13:=aK A130
       clear A130
       replace H:=Option.bind_eq_some_iff.mp H
       obtain ⟨t226,A140,H⟩:=H
       replace H:(if x10_2.length<140737488355328 then (fleuronref19_Row.l0 k2 l0 a1 a3 (x10_2++[t226]) a2 (wrap64 (x22_2+1))) else (none))=some (r1,r2):=H
       have A14:=aK A140
       clear A140
       by_cases c15:x10_2.length<140737488355328
       ·rw [if_pos c15] at H
        have LMc15:=aK c15
        clear c15
        obtain ⟨y227,hy227⟩ : ∃ y_:List Bool,y_=(x10_2++[t226]):=⟨_,rfl⟩
        replace H:(fleuronref19_Row.l0 k2 l0 a1 a3 y227 a2 (wrap64 (x22_2+1)))=some (r1,r2):=by first|(rw [hy227];with_reducible exact H)|(have H2_:=(Option.bind_some _ _).symm.trans H;rw [hy227];with_reducible exact H2_)|(have H2_:=(Option.bind_some _ _).symm.trans H;with_reducible exact H2_)|with_reducible exact H|(rw [hy227];exact H)|exact H
        have Ny227:=aK hy227
        clear hy227
        have H':=aK H
        clear H
        go_wp2_with (first|((with_reducible refine gate_callee (f:=31) rfl ?_);refine goesL_ (some 30) rfl rfl Tryz.func31 (by kernel_rfl) rfl #[.int .i64 x22_2,.int .i64 a3] rfl (by (try simp only [List.map_toArray,List.map_cons,List.map_nil]);first|done|rfl|(simp only [List.length_drop,List.length_take];rfl)) ?_;(with_reducible refine (fleuronref19_Sample.calls x22_2 a3 t224 t225 _ A13.out).mono ?_);rintro e w16 ⟨rfl,hb⟩;refine ⟨_,rfl,?_⟩;have n0_:=aK (Kd.R_below (by (with_reducible repeat (first|apply Kd.R_alloc|apply Kd.R_drewN|apply Kd.R_drew));exact HO_10.out) hb);have n1_:=aK (below_step (by repeat (first|(with_reducible first|exact HB.out|apply below_alloc|apply pw_below_drewN|apply below_drew1)|exact HB.out)) hb);clear HO_10;clear HB;have HO_10:=n0_;have HB:=n1_;clear n0_ n1_;(try clear hb);(try clear hb2);(try clear hk);(try clear hi))|((with_reducible refine gate_callee (f:=37) rfl ?_);refine goesL_ (some 31) rfl rfl Tryz.func37 (by kernel_rfl) rfl #[.slice A0 l0.length c0,.bool a1,.agg #[.int .i64 t224,.int .i64 t225]] rfl (by (try simp only [List.map_toArray,List.map_cons,List.map_nil]);first|done|rfl|(simp only [List.length_drop,List.length_take];rfl)) ?_;(with_reducible refine (fleuronref17_Within.calls k2 _ _ l0 a1 t224 t225 t226 _ ?side1 ?side2 A14.out).mono ?_);(case side1=>repeat (first|exact (Kd.C_below HR0.out HB.out)|(with_reducible refine Kd.C_alloc ?_ _)|(with_reducible refine Kd.C_drewN ?_ _)|(with_reducible refine Kd.C_drew ?_)));(case side2=>exact HC0.out);rintro e w17 ⟨rfl,hb⟩;refine ⟨_,rfl,?_⟩;have n0_:=aK (Kd.R_below (by (with_reducible repeat (first|apply Kd.R_alloc|apply Kd.R_drewN|apply Kd.R_drew));exact HO_10.out) hb);have n1_:=aK (below_step (by repeat (first|(with_reducible first|exact HB.out|apply below_alloc|apply pw_below_drewN|apply below_drew1)|exact HB.out)) hb);clear HO_10;clear HB;have HO_10:=n0_;have HB:=n1_;clear n0_ n1_;(try clear hb);(try clear hb2);(try clear hk);(try clear hi))|((with_reducible refine gate_builtin (b:=.append) (xs:=#[.tmp 25,.tmp 32]) rfl ?_);at_builtin;refine Kd.R_append Kd.bool (w0:=w) w.heap.size rfl (.tmp 25) (.tmp 32) 51 4 (.bool false) 1 rfl Tryz.underlying51 info4 rfl (by decide) (by omega) u10 x10_2 t226 [.bool t226] (fun _=>True) (fun _=>False) rfl rfl ?aP (fun _ hk=>hk.elim) ?aF ?aO ?aB ?aS ?aL ?_;(case aP=>exact rfl);(case aB=>exact (by repeat (first|(with_reducible first|exact HB.out|apply below_alloc|apply pw_below_drewN|apply below_drew1)|exact HB.out)));(case aF=>exact (fun _ _=>trivial));(case aO=>exact (by (with_reducible repeat (first|apply Kd.R_alloc|apply Kd.R_drewN|apply Kd.R_drew));exact HO_10.out));(case aS=>exact (below_size (by repeat (first|(with_reducible first|exact HB.out|apply below_alloc|apply pw_below_drewN|apply below_drew1)|exact HB.out))));(case aL=>have:=LMc15.out;omega);intro v228 w18 ho hb hg hat;rw [← Ny227.out] at ho;have n0_:=aK (hb);have n1_:=aK (ho);clear HB;clear HO_10;have HB:=n0_;have HO229:=n1_;clear n0_ n1_;clear ho hb hg hat))
        go_roundg k2
        case measure=>have:=HJ4.out;have:=HK2.out;omega
        case rel=>exact ⟨(y227),(wrap64 (x22_2+1)),(by first|rfl|(simp;done)|(simp [*];done)),H',⟨by have:=HJ4.out;have:=HK2.out;omega⟩,⟨by (with_reducible repeat (first|apply Kd.R_alloc|apply Kd.R_drewN|apply Kd.R_drew));exact HO229.out⟩,⟨by repeat (first|(with_reducible first|exact HB.out|apply below_alloc|apply pw_below_drewN|apply below_drew1)|exact HB.out)⟩⟩
       ·rw [if_neg c15] at H
        exact absurd H (by simp)
      ·rw [if_neg c12] at H
       have c12b0:decide (x22_2<a2)=false:=decide_eq_false c12
       clear c12
       replace H:=Option.bind_eq_some_iff.mp H
       obtain ⟨t230,A190,H⟩:=H
       replace H:(some (t230,0))=some (r1,r2):=H
       have A19:=aK A190
       clear A190
       simp only [Option.some.injEq,Prod.mk.injEq] at H
       obtain ⟨rfl,rfl⟩:=H
       obtain ⟨Ao20,co20,eo20⟩:=Kd.R_slice HO_10.out
       subst eo20
       go_wp2_with ((with_reducible refine gate_callee (f:=38) rfl ?_);refine goesL_ (some 36) rfl rfl Tryz.func38 (by kernel_rfl) rfl #[.slice Ao20 x10_2.length co20] rfl (by (try simp only [List.map_toArray,List.map_cons,List.map_nil]);first|done|rfl|(simp only [List.length_drop,List.length_take];rfl)) ?_;(with_reducible refine (fleuronref19_Spans.calls k2 _ _ x10_2 t230 _ ?side1 ?side2 A19.out).mono ?_);(case side1=>repeat (first|exact (Kd.R_reads' HO_10.out).2.2|(with_reducible refine Kd.C_alloc ?_ _)|(with_reducible refine Kd.C_drewN ?_ _)|(with_reducible refine Kd.C_drew ?_)));(case side2=>exact (Kd.R_reads' HO_10.out).2.1);rintro e w21 ⟨v231,rfl,ho0,hb⟩;refine ⟨_,rfl,?_⟩;have n0_:=aK (Kd.R_below (by (with_reducible repeat (first|apply Kd.R_alloc|apply Kd.R_drewN|apply Kd.R_drew));exact HO_10.out) hb);have n1_:=aK (Kd.R_lower ho0 (below_size (by repeat (first|(with_reducible first|exact HB.out|apply below_alloc|apply pw_below_drewN|apply below_drew1)|exact HB.out))));have n2_:=aK (below_step (by repeat (first|(with_reducible first|exact HB.out|apply below_alloc|apply pw_below_drewN|apply below_drew1)|exact HB.out)) hb);clear HO_10;clear HB;have HO_10:=n0_;have HO232:=n1_;have HB:=n2_;clear n0_ n1_ n2_;(try clear hb);(try clear hb2);(try clear hk);(try clear hi);(try clear ho0))
       go_ret2
       exact ⟨_,by first|rfl|(simp [errW_none,errW_some] <;> rfl)|(simp [*,errW_none,errW_some] <;> rfl),by (with_reducible repeat (first|apply Kd.R_alloc|apply Kd.R_drewN|apply Kd.R_drew));exact HO232.out,by repeat (first|(with_reducible first|exact HB.out|apply below_alloc|apply pw_below_drewN|apply below_drew1)|exact HB.out)⟩
end Go.Proofs.YtckjlckhjcbddaaGreat.PG3
