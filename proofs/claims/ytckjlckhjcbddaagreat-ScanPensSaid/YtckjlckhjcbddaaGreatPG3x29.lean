import Derived.Test.YtckjlckhjcbddaaGreatPG3x0
import Derived.Test.YtckjlckhjcbddaaGreatPG3x16
import Derived.Test.YtckjlckhjcbddaaGreatPG3x27
import Derived.Test.YtckjlckhjcbddaaGreatPG3x28
set_option maxRecDepth 100000
namespace Go.Proofs.YtckjlckhjcbddaaGreat.PG3
open Go.RowKit Go.Proofs.YtckjlckhjcbddaaGreatW.PrintWords Go.Proofs.YtckjlckhjcbddaaGreatW.PrintLast Go.Proofs.YtckjlckhjcbddaaGreatW.PrintMore
attribute [local go_sem] max2_int min2_int max_two min_two max_three min_three max_four min_four
set_option linter.unusedVariables false
set_option linter.unusedSimpArgs false
def fleuronref18_Valid.f (k:Nat) (l0:List (S47)):Option (Bool):=if (l0.length:Int)≥1 then (if (l0.length:Int)≤64 then ((fleuronref16_All.f k l0).bind fun t253=>(if t253=true then ((fleuronref18_Round.f l0).bind fun t254=>((fleuronref16_Same.f k l0 t254).bind fun t257=>(some t257))) else (some false))) else (some false)) else (some false)
theorem fleuronref18_Valid.mono : ∀ a0 k,LeO (fleuronref18_Valid.f k a0) (fleuronref18_Valid.f (k+1) a0):=by
 intro a0 k
 unfold fleuronref18_Valid.f
 repeat' first
   | (with_reducible exact fleuronref16_All.mono _ _)
   | (with_reducible exact fleuronref16_Same.mono _ _ _)
   | (with_reducible exact LeO.refl _)
   | (with_reducible exact LeO.none _)
   | (with_reducible refine LeO.ite ?_ ?_)
   | (with_reducible refine LeO.bind ?_ (fun _=>?_))
   | exact fleuronref16_All.mono _ _
   | exact fleuronref16_Same.mono _ _ _
   | exact LeO.none _
   | refine LeO.ite ?_ ?_
   | refine LeO.bind ?_ (fun _=>?_)
set_option maxHeartbeats 8000000 in
theorem fleuronref18_Valid.calls (k:Nat) (A0:Option Addr) (c0:Nat) (l0:List (S47)) (r:Bool) (w:World) (hr0:Kd.C k47 w A0 l0.length l0) (hc0:l0.length≤c0) (h:fleuronref18_Valid.f k l0=some r) :
  Calls Tryz.prog 84 #[.slice A0 l0.length c0] w fun e w'=>e = .returned (.bool r)∧Below w.heap.size w w':=by
 have HR0:=aK hr0
 have HC0:=aK hc0
 clear hr0 hc0
 have HB:=aK (Below.refl w.heap.size w)
 have H:(if (l0.length:Int)≥1 then (if (l0.length:Int)≤64 then ((fleuronref16_All.f k l0).bind fun t253=>(if t253=true then ((fleuronref18_Round.f l0).bind fun t254=>((fleuronref16_Same.f k l0 t254).bind fun t257=>(some t257))) else (some false))) else (some false)) else (some false))=some r:=h
 clear h
 by_cases c2:(l0.length:Int)≥1
 ·rw [if_pos c2] at H
  have c2b0:decide (1≤(l0.length:Int))=true:=decide_eq_true c2
  have c2b1:decide (1≤l0.length)=true:=decide_eq_true (by omega)
  clear c2
  by_cases c3:(l0.length:Int)≤64
  ·rw [if_pos c3] at H
   have c3b0:decide ((l0.length:Int)≤64)=true:=decide_eq_true c3
   have c3b1:decide (l0.length≤64)=true:=decide_eq_true (by omega)
   clear c3
   replace H:=Option.bind_eq_some_iff.mp H
   obtain ⟨t253,A40,H⟩:=H
   replace H:(if t253=true then ((fleuronref18_Round.f l0).bind fun t254=>((fleuronref16_Same.f k l0 t254).bind fun t257=>(some t257))) else (some false))=some r:=H
   have A4:=aK A40
   clear A40
   by_cases c5:t253=true
   ·subst c5
    have H1:((fleuronref18_Round.f l0).bind fun t254=>((fleuronref16_Same.f k l0 t254).bind fun t257=>(some t257)))=some r:=by rw [if_pos rfl] at H;exact H
    clear H
    have H:=H1
    clear H1
    replace H:=Option.bind_eq_some_iff.mp H
    obtain ⟨t254,A60,H⟩:=H
    replace H:((fleuronref16_Same.f k l0 t254).bind fun t257=>(some t257))=some r:=H
    have A6:=aK A60
    clear A60
    replace H:=Option.bind_eq_some_iff.mp H
    obtain ⟨t257,A70,H⟩:=H
    replace H:(some t257)=some r:=H
    have A7:=aK A70
    clear A70
    obtain rfl:=Option.some.inj H
    go_enter Tryz.func84,Tryz.ntmps84
    go_wp2_with (first|(go_at_call 29;(with_reducible refine (fleuronref16_All.calls k _ _ l0 true _ ?side1 ?side2 A4.out).mono ?_);(case side1=>repeat (first|exact HR0.out|(with_reducible refine Kd.C_alloc ?_ _)|(with_reducible refine Kd.C_drewN ?_ _)|(with_reducible refine Kd.C_drew ?_)));(case side2=>exact HC0.out);rintro e w8 ⟨rfl,hb⟩;have n0_:=aK (below_step (by repeat (first|(with_reducible first|exact HB.out|apply below_alloc|apply pw_below_drewN|apply below_drew1)|exact HB.out)) hb);clear HB;have HB:=n0_;clear n0_;(try clear hb);(try clear hb2);(try clear hk);(try clear hi))|(go_at_call 109;(with_reducible refine (fleuronref18_Round.calls _ _ l0 t254 _ ?side1 ?side2 A6.out).mono ?_);(case side1=>repeat (first|exact (Kd.C_below HR0.out HB.out)|(with_reducible refine Kd.C_alloc ?_ _)|(with_reducible refine Kd.C_drewN ?_ _)|(with_reducible refine Kd.C_drew ?_)));(case side2=>exact HC0.out);rintro e w9 ⟨v255,rfl,ho0,hb⟩;have n0_:=aK (Kd.R_lower ho0 (below_size (by repeat (first|(with_reducible first|exact HB.out|apply below_alloc|apply pw_below_drewN|apply below_drew1)|exact HB.out))));have n1_:=aK (below_step (by repeat (first|(with_reducible first|exact HB.out|apply below_alloc|apply pw_below_drewN|apply below_drew1)|exact HB.out)) hb);clear HB;have HO256:=n0_;have HB:=n1_;clear n0_ n1_;(try clear hb);(try clear hb2);(try clear hk);(try clear hi);(try clear ho0);obtain ⟨Ao10,co10,eo10⟩:=Kd.R_slice HO256.out;subst eo10)|(go_at_call 108;(with_reducible refine (fleuronref16_Same.calls k _ _ l0 _ _ t254 t257 _ ?side1 ?side2 ?side3 ?side4 A7.out).mono ?_);(case side1=>repeat (first|exact (Kd.C_below HR0.out HB.out)|(with_reducible refine Kd.C_alloc ?_ _)|(with_reducible refine Kd.C_drewN ?_ _)|(with_reducible refine Kd.C_drew ?_)));(case side2=>exact HC0.out);(case side3=>repeat (first|exact (Kd.R_reads' HO256.out).2.2|(with_reducible refine Kd.C_alloc ?_ _)|(with_reducible refine Kd.C_drewN ?_ _)|(with_reducible refine Kd.C_drew ?_)));(case side4=>exact (Kd.R_reads' HO256.out).2.1);rintro e w' ⟨rfl,⟨nd,rfl⟩⟩))
    go_ret
    exact ⟨by first|rfl|(simp [errW_none,errW_some] <;> rfl)|(simp [*,errW_none,errW_some] <;> rfl),by repeat (first|(with_reducible first|exact HB.out|apply below_alloc|apply pw_below_drewN|apply below_drew1)|exact HB.out)⟩
   ·replace c5:=Bool.eq_false_iff.mpr c5
    subst c5
    have H1:(some false)=some r:=by rw [if_neg (show ¬ (false=true) by decide)] at H;exact H
    clear H
    have H:=H1
    clear H1
    obtain rfl:=Option.some.inj H
    go_enter Tryz.func84,Tryz.ntmps84
    go_wp2_with (go_at_call 29;(with_reducible refine (fleuronref16_All.calls k _ _ l0 false _ ?side1 ?side2 A4.out).mono ?_);(case side1=>repeat (first|exact HR0.out|(with_reducible refine Kd.C_alloc ?_ _)|(with_reducible refine Kd.C_drewN ?_ _)|(with_reducible refine Kd.C_drew ?_)));(case side2=>exact HC0.out);rintro e w11 ⟨rfl,hb⟩;have n0_:=aK (below_step (by repeat (first|(with_reducible first|exact HB.out|apply below_alloc|apply pw_below_drewN|apply below_drew1)|exact HB.out)) hb);clear HB;have HB:=n0_;clear n0_;(try clear hb);(try clear hb2);(try clear hk);(try clear hi))
    go_ret
    exact ⟨by first|rfl|(simp [errW_none,errW_some] <;> rfl)|(simp [*,errW_none,errW_some] <;> rfl),by repeat (first|(with_reducible first|exact HB.out|apply below_alloc|apply pw_below_drewN|apply below_drew1)|exact HB.out)⟩
  ·rw [if_neg c3] at H
   have c3b0:decide ((l0.length:Int)≤64)=false:=decide_eq_false c3
   have c3b1:decide (l0.length≤64)=false:=decide_eq_false (by omega)
   clear c3
   obtain rfl:=Option.some.inj H
   go_enter Tryz.func84,Tryz.ntmps84
   go_wp2
   go_ret
   exact ⟨by first|rfl|(simp [errW_none,errW_some] <;> rfl)|(simp [*,errW_none,errW_some] <;> rfl),by repeat (first|(with_reducible first|exact HB.out|apply below_alloc|apply pw_below_drewN|apply below_drew1)|exact HB.out)⟩
 ·rw [if_neg c2] at H
  have c2b0:decide (1≤(l0.length:Int))=false:=decide_eq_false c2
  have c2b1:decide (1≤l0.length)=false:=decide_eq_false (by omega)
  clear c2
  obtain rfl:=Option.some.inj H
  go_enter Tryz.func84,Tryz.ntmps84
  go_wp2
  go_ret
  exact ⟨by first|rfl|(simp [errW_none,errW_some] <;> rfl)|(simp [*,errW_none,errW_some] <;> rfl),by repeat (first|(with_reducible first|exact HB.out|apply below_alloc|apply pw_below_drewN|apply below_drew1)|exact HB.out)⟩
def fleuronref18_Drawn.f (k:Nat) (l0:List (S47)) (l1:List (S47)):Option (Bool):=(fleuronref18_Valid.f k l0).bind fun t258=>(if t258=true then (if (l1.length:Int)≥1 then (if (l1.length:Int)≤60000 then ((fleuronref16_All.f k l1).bind fun t259=>(some t259)) else (some false)) else (some false)) else (some false))
theorem fleuronref18_Drawn.mono : ∀ a0 a1 k,LeO (fleuronref18_Drawn.f k a0 a1) (fleuronref18_Drawn.f (k+1) a0 a1):=by
 intro a0 a1 k
 unfold fleuronref18_Drawn.f
 repeat' first
   | (with_reducible exact fleuronref16_All.mono _ _)
   | (with_reducible exact fleuronref18_Valid.mono _ _)
   | (with_reducible exact LeO.refl _)
   | (with_reducible exact LeO.none _)
   | (with_reducible refine LeO.ite ?_ ?_)
   | (with_reducible refine LeO.bind ?_ (fun _=>?_))
   | exact fleuronref16_All.mono _ _
   | exact fleuronref18_Valid.mono _ _
   | exact LeO.none _
   | refine LeO.ite ?_ ?_
   | refine LeO.bind ?_ (fun _=>?_)
set_option maxHeartbeats 8000000 in
theorem fleuronref18_Drawn.calls (k:Nat) (A0:Option Addr) (c0:Nat) (l0:List (S47)) (A1:Option Addr) (c1:Nat) (l1:List (S47)) (r:Bool) (w:World) (hr0:Kd.C k47 w A0 l0.length l0) (hc0:l0.length≤c0) (hr1:Kd.C k47 w A1 l1.length l1) (hc1:l1.length≤c1) (h:fleuronref18_Drawn.f k l0 l1=some r) :
  Calls Tryz.prog 45 #[.slice A0 l0.length c0,.slice A1 l1.length c1] w fun e w'=>e = .returned (.bool r)∧Below w.heap.size w w':=by
 have HR0:=aK hr0
 have HC0:=aK hc0
 clear hr0 hc0
 have HR1:=aK hr1
 have HC1:=aK hc1
 clear hr1 hc1
 have HB:=aK (Below.refl w.heap.size w)
 have H:((fleuronref18_Valid.f k l0).bind fun t258=>(if t258=true then (if (l1.length:Int)≥1 then (if (l1.length:Int)≤60000 then ((fleuronref16_All.f k l1).bind fun t259=>(some t259)) else (some false)) else (some false)) else (some false)))=some r:=h
 clear h
 replace H:=Option.bind_eq_some_iff.mp H
 obtain ⟨t258,A30,H⟩:=H
 replace H:(if t258=true then (if (l1.length:Int)≥1 then (if (l1.length:Int)≤60000 then ((fleuronref16_All.f k l1).bind fun t259=>(some t259)) else (some false)) else (some false)) else (some false))=some r:=H
 have A3:=aK A30
 clear A30
 by_cases c4:t258=true
 ·subst c4
  have H1:(if (l1.length:Int)≥1 then (if (l1.length:Int)≤60000 then ((fleuronref16_All.f k l1).bind fun t259=>(some t259)) else (some false)) else (some false))=some r:=by rw [if_pos rfl] at H;exact H
  clear H
  have H:=H1
  clear H1
  by_cases c5:(l1.length:Int)≥1
  ·rw [if_pos c5] at H
   have c5b0:decide (1≤(l1.length:Int))=true:=decide_eq_true c5
   have c5b1:decide (1≤l1.length)=true:=decide_eq_true (by omega)
   clear c5
   by_cases c6:(l1.length:Int)≤60000
   ·rw [if_pos c6] at H
    have c6b0:decide ((l1.length:Int)≤60000)=true:=decide_eq_true c6
    have c6b1:decide (l1.length≤60000)=true:=decide_eq_true (by omega)
    clear c6
    replace H:=Option.bind_eq_some_iff.mp H
    obtain ⟨t259,A70,H⟩:=H
    replace H:(some t259)=some r:=H
    have A7:=aK A70
    clear A70
    obtain rfl:=Option.some.inj H
    go_enter Tryz.func45,Tryz.ntmps45
    go_wp2_with (first|((with_reducible refine gate_callee (f:=84) rfl ?_);refine goesL_ (some 6) rfl rfl Tryz.func84 (by kernel_rfl) rfl #[.slice A0 l0.length c0] rfl (by (try simp only [List.map_toArray,List.map_cons,List.map_nil]);first|done|rfl|(simp only [List.length_drop,List.length_take];rfl)) ?_;(with_reducible refine (fleuronref18_Valid.calls k _ _ l0 true _ ?side1 ?side2 A3.out).mono ?_);(case side1=>repeat (first|exact HR0.out|(with_reducible refine Kd.C_alloc ?_ _)|(with_reducible refine Kd.C_drewN ?_ _)|(with_reducible refine Kd.C_drew ?_)));(case side2=>exact HC0.out);rintro e w8 ⟨rfl,hb⟩;refine ⟨_,rfl,?_⟩;have n0_:=aK (below_step (by repeat (first|(with_reducible first|exact HB.out|apply below_alloc|apply pw_below_drewN|apply below_drew1)|exact HB.out)) hb);clear HB;have HB:=n0_;clear n0_;(try clear hb);(try clear hb2);(try clear hk);(try clear hi))|(go_at_call 29;(with_reducible refine (fleuronref16_All.calls k _ _ l1 t259 _ ?side1 ?side2 A7.out).mono ?_);(case side1=>repeat (first|exact (Kd.C_below HR1.out HB.out)|(with_reducible refine Kd.C_alloc ?_ _)|(with_reducible refine Kd.C_drewN ?_ _)|(with_reducible refine Kd.C_drew ?_)));(case side2=>exact HC1.out);rintro e w9 ⟨rfl,hb⟩;have n0_:=aK (below_step (by repeat (first|(with_reducible first|exact HB.out|apply below_alloc|apply pw_below_drewN|apply below_drew1)|exact HB.out)) hb);clear HB;have HB:=n0_;clear n0_;(try clear hb);(try clear hb2);(try clear hk);(try clear hi)))
    go_ret
    exact ⟨by first|rfl|(simp [errW_none,errW_some] <;> rfl)|(simp [*,errW_none,errW_some] <;> rfl),by repeat (first|(with_reducible first|exact HB.out|apply below_alloc|apply pw_below_drewN|apply below_drew1)|exact HB.out)⟩
   ·rw [if_neg c6] at H
    have c6b0:decide ((l1.length:Int)≤60000)=false:=decide_eq_false c6
    have c6b1:decide (l1.length≤60000)=false:=decide_eq_false (by omega)
    clear c6
    obtain rfl:=Option.some.inj H
    go_enter Tryz.func45,Tryz.ntmps45
    go_wp2_with ((with_reducible refine gate_callee (f:=84) rfl ?_);refine goesL_ (some 6) rfl rfl Tryz.func84 (by kernel_rfl) rfl #[.slice A0 l0.length c0] rfl (by (try simp only [List.map_toArray,List.map_cons,List.map_nil]);first|done|rfl|(simp only [List.length_drop,List.length_take];rfl)) ?_;(with_reducible refine (fleuronref18_Valid.calls k _ _ l0 true _ ?side1 ?side2 A3.out).mono ?_);(case side1=>repeat (first|exact HR0.out|(with_reducible refine Kd.C_alloc ?_ _)|(with_reducible refine Kd.C_drewN ?_ _)|(with_reducible refine Kd.C_drew ?_)));(case side2=>exact HC0.out);rintro e w10 ⟨rfl,hb⟩;refine ⟨_,rfl,?_⟩;have n0_:=aK (below_step (by repeat (first|(with_reducible first|exact HB.out|apply below_alloc|apply pw_below_drewN|apply below_drew1)|exact HB.out)) hb);clear HB;have HB:=n0_;clear n0_;(try clear hb);(try clear hb2);(try clear hk);(try clear hi))
    go_ret
    exact ⟨by first|rfl|(simp [errW_none,errW_some] <;> rfl)|(simp [*,errW_none,errW_some] <;> rfl),by repeat (first|(with_reducible first|exact HB.out|apply below_alloc|apply pw_below_drewN|apply below_drew1)|exact HB.out)⟩
  ·rw [if_neg c5] at H
   have c5b0:decide (1≤(l1.length:Int))=false:=decide_eq_false c5
   have c5b1:decide (1≤l1.length)=false:=decide_eq_false (by omega)
   clear c5
   obtain rfl:=Option.some.inj H
   go_enter Tryz.func45,Tryz.ntmps45
   go_wp2_with ((with_reducible refine gate_callee (f:=84) rfl ?_);refine goesL_ (some 6) rfl rfl Tryz.func84 (by kernel_rfl) rfl #[.slice A0 l0.length c0] rfl (by (try simp only [List.map_toArray,List.map_cons,List.map_nil]);first|done|rfl|(simp only [List.length_drop,List.length_take];rfl)) ?_;(with_reducible refine (fleuronref18_Valid.calls k _ _ l0 true _ ?side1 ?side2 A3.out).mono ?_);(case side1=>repeat (first|exact HR0.out|(with_reducible refine Kd.C_alloc ?_ _)|(with_reducible refine Kd.C_drewN ?_ _)|(with_reducible refine Kd.C_drew ?_)));(case side2=>exact HC0.out);rintro e w11 ⟨rfl,hb⟩;refine ⟨_,rfl,?_⟩;have n0_:=aK (below_step (by repeat (first|(with_reducible first|exact HB.out|apply below_alloc|apply pw_below_drewN|apply below_drew1)|exact HB.out)) hb);clear HB;have HB:=n0_;clear n0_;(try clear hb);(try clear hb2);(try clear hk);(try clear hi))
   go_ret
   exact ⟨by first|rfl|(simp [errW_none,errW_some] <;> rfl)|(simp [*,errW_none,errW_some] <;> rfl),by repeat (first|(with_reducible first|exact HB.out|apply below_alloc|apply pw_below_drewN|apply below_drew1)|exact HB.out)⟩
 ·replace c4:=Bool.eq_false_iff.mpr c4
  subst c4
  have H1:(some false)=some r:=by rw [if_neg (show ¬ (false=true) by decide)] at H;exact H
  clear H
  have H:=H1
  clear H1
  obtain rfl:=Option.some.inj H
  go_enter Tryz.func45,Tryz.ntmps45
  go_wp2_with ((with_reducible refine gate_callee (f:=84) rfl ?_);refine goesL_ (some 6) rfl rfl Tryz.func84 (by kernel_rfl) rfl #[.slice A0 l0.length c0] rfl (by (try simp only [List.map_toArray,List.map_cons,List.map_nil]);first|done|rfl|(simp only [List.length_drop,List.length_take];rfl)) ?_;(with_reducible refine (fleuronref18_Valid.calls k _ _ l0 false _ ?side1 ?side2 A3.out).mono ?_);(case side1=>repeat (first|exact HR0.out|(with_reducible refine Kd.C_alloc ?_ _)|(with_reducible refine Kd.C_drewN ?_ _)|(with_reducible refine Kd.C_drew ?_)));(case side2=>exact HC0.out);rintro e w12 ⟨rfl,hb⟩;refine ⟨_,rfl,?_⟩;have n0_:=aK (below_step (by repeat (first|(with_reducible first|exact HB.out|apply below_alloc|apply pw_below_drewN|apply below_drew1)|exact HB.out)) hb);clear HB;have HB:=n0_;clear n0_;(try clear hb);(try clear hb2);(try clear hk);(try clear hi))
  go_ret
  exact ⟨by first|rfl|(simp [errW_none,errW_some] <;> rfl)|(simp [*,errW_none,errW_some] <;> rfl),by repeat (first|(with_reducible first|exact HB.out|apply below_alloc|apply pw_below_drewN|apply below_drew1)|exact HB.out)⟩
def fleuronref18_plus.l0:Nat→List (S47)→List (S47)→Int→Int→Int→Int→Option ((List (S47)))
 | 0,_,_,_,_,_,_=>none
 | k+1,x5,x8,x9,x10,x261000,x261001=>if x10<x9 then (if 0≤x10 then (if x10<(x8.length:Int) then (if x5.length<8796093022208 then (fleuronref18_plus.l0 k (x5++[(⟨wrap64 (((rd_T47 x8 x10).f0)+x261000),wrap64 (((rd_T47 x8 x10).f1)+x261001)⟩:S47)]) x8 x9 (wrap64 (x10+1)) x261000 x261001) else (none)) else (none)) else (none)) else (some x5)
def fleuronref18_plus.f (k:Nat) (l0:List (S47)) (a1_0:Int) (a1_1:Int):Option ((List (S47))):=fleuronref18_plus.l0 k ([]:List (S47)) l0 (l0.length:Int) 0 a1_0 a1_1
theorem fleuronref18_plus.mono_l : ∀ k,(∀ y0 y1 y2 y3 y4 y5,LeO (fleuronref18_plus.l0 k y0 y1 y2 y3 y4 y5) (fleuronref18_plus.l0 (k+1) y0 y1 y2 y3 y4 y5))
 | 0=>fun _ _ _ _ _ _ r h=>by simp [fleuronref18_plus.l0] at h
 | k+1=>by
  have ih0:=fleuronref18_plus.mono_l k
  ·intro y0 y1 y2 y3 y4 y5
   unfold fleuronref18_plus.l0
   repeat' first
   | (with_reducible exact ih0 _ _ _ _ _ _)
   | (with_reducible exact LeO.refl _)
   | (with_reducible exact LeO.none _)
   | (with_reducible refine LeO.ite ?_ ?_)
   | (with_reducible refine LeO.bind ?_ (fun _=>?_))
   | exact ih0 _ _ _ _ _ _
   | exact LeO.none _
   | refine LeO.ite ?_ ?_
   | refine LeO.bind ?_ (fun _=>?_)
theorem fleuronref18_plus.mono : ∀ a0 a1 a2 k,LeO (fleuronref18_plus.f k a0 a1 a2) (fleuronref18_plus.f (k+1) a0 a1 a2):=by
 intro a0 a1 a2 k
 have ih0:=fleuronref18_plus.mono_l k
 unfold fleuronref18_plus.f
 repeat' first
   | (with_reducible exact ih0 _ _ _ _ _ _)
   | (with_reducible exact LeO.refl _)
   | (with_reducible exact LeO.none _)
   | (with_reducible refine LeO.ite ?_ ?_)
   | (with_reducible refine LeO.bind ?_ (fun _=>?_))
   | exact ih0 _ _ _ _ _ _
   | exact LeO.none _
   | refine LeO.ite ?_ ?_
   | refine LeO.bind ?_ (fun _=>?_)
set_option maxHeartbeats 8000000 in
theorem fleuronref18_plus.calls (k:Nat) (A0:Option Addr) (c0:Nat) (l0:List (S47)) (a1_0:Int) (a1_1:Int) (r:List (S47)) (w:World) (hr0:Kd.C k47 w A0 l0.length l0) (hc0:l0.length≤c0) (h:fleuronref18_plus.f k l0 a1_0 a1_1=some r) :
  Calls Tryz.prog 85 #[.slice A0 l0.length c0,.agg #[.int .i64 a1_0,.int .i64 a1_1]] w fun e w'=>∃ v0_:Value,e = .returned (v0_)∧Kd.R k47 47 w' w.heap.size (fun _=>True) v0_ r∧Below w.heap.size w w':=by
 have hu47:=Tryz.underlying47
 have HR0:=aK hr0
 have HC0:=aK hc0
 clear hr0 hc0
 have HB:=aK (Below.refl w.heap.size w)
 have H:(fleuronref18_plus.l0 k ([]:List (S47)) l0 (l0.length:Int) 0 a1_0 a1_1)=some r:=h
 clear h
 have H':=aK H
 clear H
 go_enter Tryz.func85,Tryz.ntmps85
 go_wp2_with ((with_reducible refine gate_dst (N:=3) rfl ?_);refine box_event ?hg (N:=3) ?hd (cs:=#[.int .i64 a1_0,.int .i64 a1_1]) (t:=47) ?hr ?_;(case hd=>rfl);(case hg=>rfl);(case hr=>first|(go_simp;done)|(go_simp;rfl));intro gb260 hg w3 hbox hb;have n0_:=aK (below_step (by repeat (first|(with_reducible first|exact HB.out|apply below_alloc|apply pw_below_drewN|apply below_drew1)|exact HB.out)) hb);have n1_:=aK (hbox);have n2_:=aK ((by rw [hg];exact (below_size (by repeat (first|(with_reducible first|exact HB.out|apply below_alloc|apply pw_below_drewN|apply below_drew1)|exact HB.out))):w.heap.size≤gb260));have n3_:=n2_;clear HB;have HB:=n0_;have BK260:=n1_;have GW260:=n2_;have GE260:=n3_;clear n0_ n1_ n2_ n3_;clear hb hbox hg)
 go_loopg [5,10] k (fun kq v5 v10 w'=>∃ (x5_1:List (S47)) (x10_1:Int),v10 = .int .i64 x10_1∧Aside0 (fleuronref18_plus.l0 kq x5_1 l0 (l0.length:Int) x10_1 a1_0 a1_1=some r)∧Aside0 (kq≤k)∧Aside0 (Kd.R k47 47 w' w.heap.size (fun k_=>k_≠gb260) v5 x5_1)∧Aside0 (w'.heap[gb260]?=some (.cells #[.int .i64 a1_0,.int .i64 a1_1] 47 (0,0)))∧Aside0 (Below w.heap.size w w'))
 case atStart=>exact ⟨(([]:List (S47))),(0),(by first|rfl|(simp;done)|(simp [*];done)),H',⟨Nat.le_refl _⟩,⟨by first|exact Kd.R_nil _ _ _ _ _|exact Kd.N_nil _ _ _ _ _|exact Kd.V_nil _ _ _ _ _|exact Kd.Q_nil _ _ _ _ _|exact Kd.S_nil _ _ _ _ _⟩,⟨by (with_reducible repeat (first|refine blk_drewN ?_ _|refine blk_drew ?_|refine blk_alloc ?_ _));exact BK260.out⟩,⟨by repeat (first|(with_reducible first|exact HB.out|apply below_alloc|apply pw_below_drewN|apply below_drew1|refine below_set ?_ GE260.out)|exact HB.out)⟩⟩
 case round =>
  clear H'
  try clear p2
  obtain ⟨x5_1,x10_1,rfl,HA,HK1,HO_5,BK260,HB⟩:=hrel
  cases gk with
  | zero=>exact absurd HA.out (by simp [fleuronref18_plus.l0])
  | succ k1 =>
   have H:=HA.out
   clear HA
   simp only [fleuronref18_plus.l0] at H
   by_cases c4:x10_1<(l0.length:Int)
   ·rw [if_pos c4] at H
    have c4b0:decide (x10_1<(l0.length:Int))=true:=decide_eq_true c4
    clear c4
    by_cases c5:0≤x10_1
    ·rw [if_pos c5] at H
     have c5b0:decide (0≤x10_1)=true:=decide_eq_true c5
     clear c5
     by_cases c6:x10_1<(l0.length:Int)
     ·rw [if_pos c6] at H
      have c6b0:decide (x10_1<(l0.length:Int))=true:=decide_eq_true c6
      clear c6
      by_cases c7:x5_1.length<8796093022208
      ·rw [if_pos c7] at H
       have LMc7:=aK c7
       clear c7
       obtain ⟨y263,hy263⟩ : ∃ y_:List (S47),y_=(x5_1++[(⟨wrap64 (((rd_T47 l0 x10_1).f0)+a1_0),wrap64 (((rd_T47 l0 x10_1).f1)+a1_1)⟩:S47)]):=⟨_,rfl⟩
       replace H:(fleuronref18_plus.l0 k1 y263 l0 (l0.length:Int) (wrap64 (x10_1+1)) a1_0 a1_1)=some r:=by first|(rw [hy263];with_reducible exact H)|(have H2_:=(Option.bind_some _ _).symm.trans H;rw [hy263];with_reducible exact H2_)|(have H2_:=(Option.bind_some _ _).symm.trans H;with_reducible exact H2_)|with_reducible exact H|(rw [hy263];exact H)|exact H
       have Ny263:=aK hy263
       clear hy263
       have H':=aK H
       clear H
       have p261:0≤(x10_1:Int):=of_decide_eq_true (by first|(with_reducible assumption)|assumption)
       have q261:x10_1<(l0.length:Int):=of_decide_eq_true (by first|(with_reducible assumption)|assumption)
       obtain ⟨ad261,e261,hx261_0,hx261_1⟩:=at_T47 HR0.out x10_1 p261 q261
       cases e261
       replace hx261_0:=(HB.out.cell (World.block_lt_of_cell? w _ hx261_0)).trans hx261_0
       replace hx261_1:=(HB.out.cell (World.block_lt_of_cell? w _ hx261_1)).trans hx261_1
       replace p261:=eq_true p261
       replace q261:=eq_true q261
       go_wp2_with (first|((with_reducible refine gate_dst (N:=7) rfl ?_);refine box_event ?hg (N:=7) ?hd (cs:=#[.int .i64 0,.int .i64 0]) (t:=47) ?hr ?_;(case hd=>rfl);(case hg=>rfl);(case hr=>first|(go_simp;done)|(go_simp;rfl));intro gb262 hg w8 hbox hb;have n0_:=aK (Kd.R_below (Kd.R_elderB (by (with_reducible repeat (first|apply Kd.R_alloc|apply Kd.R_drewN|apply Kd.R_drew));exact HO_5.out) gb262 (Nat.le_of_eq hg.symm)) hb);have n1_:=aK (blk_below (g:=gb260) (o:=.cells #[.int .i64 a1_0,.int .i64 a1_1] 47 (0,0)) (by (with_reducible repeat (first|refine blk_drewN ?_ _|refine blk_drew ?_|refine blk_alloc ?_ _));exact BK260.out) hb);have n2_:=aK (below_step (by repeat (first|(with_reducible first|exact HB.out|apply below_alloc|apply pw_below_drewN|apply below_drew1|refine below_set ?_ GE260.out)|exact HB.out)) hb);have n3_:=aK (hbox);have n4_:=aK ((by rw [hg];exact (below_size (by repeat (first|(with_reducible first|exact HB.out|apply below_alloc|apply pw_below_drewN|apply below_drew1|refine below_set ?_ GE260.out)|exact HB.out))):w.heap.size≤gb262));have n5_:=n4_;have n6_:=aK ((by rw [hg];exact Nat.ne_of_lt (blk_lt (g:=gb260) (o:=.cells #[.int .i64 a1_0,.int .i64 a1_1] 47 (0,0)) (by (with_reducible repeat (first|refine blk_drewN ?_ _|refine blk_drew ?_|refine blk_alloc ?_ _));exact BK260.out)):gb260≠gb262));have n7_:=aK (Ne.symm n6_.out);clear HO_5;clear BK260;clear HB;have HO_5:=n0_;have BK260:=n1_;have HB:=n2_;have BK262:=n3_;have GW262:=n4_;have GE262:=n5_;have NB260_262:=n6_;have NB262_260:=n7_;clear n0_ n1_ n2_ n3_ n4_ n5_ n6_ n7_;clear hb hbox hg;have hnb9:=NB262_260.out;have hnc9:=NB260_262.out;have hcz10_0:w8.cell? ⟨gb262,0,none⟩=some (.int .i64 0):=(blk_cell BK262.out 0).trans rfl;have hcz10_1:w8.cell? ⟨gb262,1,none⟩=some (.int .i64 0):=(blk_cell BK262.out 1).trans rfl;have hfz10_0:=blk_frozen BK262.out 0;have hfz10_1:=blk_frozen BK262.out 1;have hcz11_0:w8.cell? ⟨gb260,0,none⟩=some (.int .i64 a1_0):=(blk_cell BK260.out 0).trans rfl;have hcz11_1:w8.cell? ⟨gb260,1,none⟩=some (.int .i64 a1_1):=(blk_cell BK260.out 1).trans rfl;have hfz11_0:=blk_frozen BK260.out 0;have hfz11_1:=blk_frozen BK260.out 1)|((with_reducible refine gate_builtin (b:=.append) (xs:=#[.tmp 14,.tmp 26]) rfl ?_);at_builtin;refine Kd.R_append k47 (w0:=w) w.heap.size rfl (.tmp 14) (.tmp 26) 34 47 (.agg #[(.int .i64 0),(.int .i64 0)]) 16 rfl Tryz.underlying34 info47 rfl (by decide) (by omega) u5 x5_1 (⟨wrap64 (((rd_T47 l0 x10_1).f0)+a1_0),wrap64 (((rd_T47 l0 x10_1).f1)+a1_1)⟩:S47) [.int .i64 (wrap64 (((rd_T47 l0 x10_1).f0)+a1_0)),.int .i64 (wrap64 (((rd_T47 l0 x10_1).f1)+a1_1))] (fun k_=>k_≠gb260∧k_≠gb262) (fun _=>False) rfl (by first|(go_simp;done)|(go_simp;rfl)) ?aP (fun _ hk=>hk.elim) ?aF ?aO ?aB ?aS ?aL ?_;(case aP=>exact k47_mkM _ _ _ (⟨wrap64 (((rd_T47 l0 x10_1).f0)+a1_0),wrap64 (((rd_T47 l0 x10_1).f1)+a1_1)⟩:S47));(case aB=>exact (by repeat (first|(with_reducible first|exact HB.out|apply below_alloc|apply pw_below_drewN|apply below_drew1|refine below_set ?_ GE260.out|refine below_set ?_ GE262.out)|exact HB.out)));(case aF=>exact (fun k_ hk=>⟨Kd.freshB (g:=gb260) (o:=.cells #[.int .i64 a1_0,.int .i64 a1_1] 47 (0,0)) (by (with_reducible repeat (first|refine blk_drewN ?_ _|refine blk_drew ?_|refine blk_alloc ?_ _));refine blk_far ?_ NB260_262.out _;(with_reducible repeat (first|refine blk_drewN ?_ _|refine blk_drew ?_|refine blk_alloc ?_ _));refine blk_far ?_ NB260_262.out _;(with_reducible repeat (first|refine blk_drewN ?_ _|refine blk_drew ?_|refine blk_alloc ?_ _));exact BK260.out) k_ hk,Kd.freshB (g:=gb262) (o:=.cells #[.int .i64 ((rd_T47 l0 x10_1).f0),.int .i64 ((rd_T47 l0 x10_1).f1)] 47 (0,0)) (by (with_reducible repeat (first|refine blk_drewN ?_ _|refine blk_drew ?_|refine blk_alloc ?_ _));refine blk_put (cs:=#[.int .i64 ((rd_T47 l0 x10_1).f0),.int .i64 0]) ?_ 1 _ rfl;(with_reducible repeat (first|refine blk_drewN ?_ _|refine blk_drew ?_|refine blk_alloc ?_ _));refine blk_put (cs:=#[.int .i64 0,.int .i64 0]) ?_ 0 _ rfl;(with_reducible repeat (first|refine blk_drewN ?_ _|refine blk_drew ?_|refine blk_alloc ?_ _));exact BK262.out) k_ hk⟩));(case aO=>exact (by (with_reducible repeat (first|apply Kd.R_alloc|apply Kd.R_drewN|apply Kd.R_drew));exact Kd.R_mono (Kd.R_far (p:=⟨gb262,1,none⟩) (Kd.R_far (p:=⟨gb262,0,none⟩) (Kd.R_mono HO_5.out (fun k_ hk=>(⟨hk,hk.2⟩:_∧k_≠gb262))) (fun _ hk=>hk.2) (.int .i64 ((rd_T47 l0 x10_1).f0))) (fun _ hk=>hk.2) (.int .i64 ((rd_T47 l0 x10_1).f1))) (fun _ hk=>⟨hk.1.1,hk.1.2⟩)));(case aS=>exact (below_size (by repeat (first|(with_reducible first|exact HB.out|apply below_alloc|apply pw_below_drewN|apply below_drew1|refine below_set ?_ GE260.out|refine below_set ?_ GE262.out)|exact HB.out))));(case aL=>have:=LMc7.out;omega);intro v264 w12 ho hb hg hat;rw [← Ny263.out] at ho;have n0_:=aK (blk_grown (g:=gb260) (o:=.cells #[.int .i64 a1_0,.int .i64 a1_1] 47 (0,0)) (by (with_reducible repeat (first|refine blk_drewN ?_ _|refine blk_drew ?_|refine blk_alloc ?_ _));refine blk_far ?_ NB260_262.out _;(with_reducible repeat (first|refine blk_drewN ?_ _|refine blk_drew ?_|refine blk_alloc ?_ _));refine blk_far ?_ NB260_262.out _;(with_reducible repeat (first|refine blk_drewN ?_ _|refine blk_drew ?_|refine blk_alloc ?_ _));exact BK260.out) hg (Kd.R_away HO_5.out (fun _ hk=>hk.1)));have n1_:=aK (blk_grown (g:=gb262) (o:=.cells #[.int .i64 ((rd_T47 l0 x10_1).f0),.int .i64 ((rd_T47 l0 x10_1).f1)] 47 (0,0)) (by (with_reducible repeat (first|refine blk_drewN ?_ _|refine blk_drew ?_|refine blk_alloc ?_ _));refine blk_put (cs:=#[.int .i64 ((rd_T47 l0 x10_1).f0),.int .i64 0]) ?_ 1 _ rfl;(with_reducible repeat (first|refine blk_drewN ?_ _|refine blk_drew ?_|refine blk_alloc ?_ _));refine blk_put (cs:=#[.int .i64 0,.int .i64 0]) ?_ 0 _ rfl;(with_reducible repeat (first|refine blk_drewN ?_ _|refine blk_drew ?_|refine blk_alloc ?_ _));exact BK262.out) hg (Kd.R_away HO_5.out (fun _ hk=>hk.2)));have n2_:=aK (hb);have n3_:=aK (ho);clear BK260;clear BK262;clear HB;clear HO_5;have BK260:=n0_;have BK262:=n1_;have HB:=n2_;have HO265:=n3_;clear n0_ n1_ n2_ n3_;clear ho hb hg hat))
       go_roundg k1
       case measure=>have:=HK1.out;omega
       case rel=>exact ⟨(y263),(wrap64 (x10_1+1)),(by first|rfl|(simp;done)|(simp [*];done)),H',⟨by have:=HK1.out;omega⟩,⟨by (with_reducible repeat (first|apply Kd.R_alloc|apply Kd.R_drewN|apply Kd.R_drew));exact Kd.R_mono HO265.out (fun _ hk=>hk.1)⟩,⟨by (with_reducible repeat (first|refine blk_drewN ?_ _|refine blk_drew ?_|refine blk_alloc ?_ _));exact BK260.out⟩,⟨by repeat (first|(with_reducible first|exact HB.out|apply below_alloc|apply pw_below_drewN|apply below_drew1|refine below_set ?_ GE260.out|refine below_set ?_ GE262.out)|exact HB.out)⟩⟩
      ·rw [if_neg c7] at H
       exact absurd H (by simp)
     ·rw [if_neg c6] at H
      exact absurd H (by simp)
    ·rw [if_neg c5] at H
     exact absurd H (by simp)
   ·rw [if_neg c4] at H
    have c4b0:decide (x10_1<(l0.length:Int))=false:=decide_eq_false c4
    clear c4
    obtain rfl:=Option.some.inj H
    go_wp2
    go_ret
    exact ⟨_,by first|rfl|(simp [errW_none,errW_some] <;> rfl)|(simp [*,errW_none,errW_some] <;> rfl),by (with_reducible repeat (first|apply Kd.R_alloc|apply Kd.R_drewN|apply Kd.R_drew));exact Kd.R_mono HO_5.out (fun _ hk=>trivial),by repeat (first|(with_reducible first|exact HB.out|apply below_alloc|apply pw_below_drewN|apply below_drew1|refine below_set ?_ GE260.out)|exact HB.out)⟩
def fleuronref18_Swept.f (k:Nat) (l0:List (S47)) (a1_0:Int) (a1_1:Int) (a2_0:Int) (a2_1:Int):Option ((List (S47))):=(fleuronref18_plus.f k l0 a1_0 a1_1).bind fun t268=>((fleuronref18_plus.f k l0 a2_0 a2_1).bind fun t271=>(if t268.length+t271.length<8796093022208 then ((fleuronref18_Round.f (t268++t271)).bind fun t277=>(some t277)) else (none)))
theorem fleuronref18_Swept.mono : ∀ a0 a1 a2 a3 a4 k,LeO (fleuronref18_Swept.f k a0 a1 a2 a3 a4) (fleuronref18_Swept.f (k+1) a0 a1 a2 a3 a4):=by
 intro a0 a1 a2 a3 a4 k
 unfold fleuronref18_Swept.f
 repeat' first
   | (with_reducible exact fleuronref18_plus.mono _ _ _ _)
   | (with_reducible exact LeO.refl _)
   | (with_reducible exact LeO.none _)
   | (with_reducible refine LeO.ite ?_ ?_)
   | (with_reducible refine LeO.bind ?_ (fun _=>?_))
   | exact fleuronref18_plus.mono _ _ _ _
   | exact LeO.none _
   | refine LeO.ite ?_ ?_
   | refine LeO.bind ?_ (fun _=>?_)
def fleuronref18_Swept.T1:Bool×List (List Nat×List Nat):=(true,[([],[]),([],[]),([0,1],[0,1]),([],[]),([],[]),([3,4,2],[3,4]),([2,5,5],[2,5]),([6,6],[6]),([7,7,0,1,2,3,4,5,6,7],[7])])
def fleuronref18_Swept.B1:List Nat:=[0,0,3,0,0,31,63,127,255]
theorem fleuronref18_Swept.tab1:rtab .any (opsOf Tryz.f86 1)=fleuronref18_Swept.T1:=by kernel_rfl
theorem fleuronref18_Swept.bits1:waitsOk fleuronref18_Swept.T1.2 fleuronref18_Swept.B1=true:=by kernel_rfl
set_option maxHeartbeats 8000000 in
theorem fleuronref18_Swept.calls (k:Nat) (A0:Option Addr) (c0:Nat) (l0:List (S47)) (a1_0:Int) (a1_1:Int) (a2_0:Int) (a2_1:Int) (r:List (S47)) (w:World) (hr0:Kd.C k47 w A0 l0.length l0) (hc0:l0.length≤c0) (h:fleuronref18_Swept.f k l0 a1_0 a1_1 a2_0 a2_1=some r) :
  Calls Tryz.prog 86 #[.slice A0 l0.length c0,.agg #[.int .i64 a1_0,.int .i64 a1_1],.agg #[.int .i64 a2_0,.int .i64 a2_1]] w fun e w'=>∃ v0_:Value,e = .returned (v0_)∧Kd.R k47 47 w' w.heap.size (fun _=>True) v0_ r∧Below w.heap.size w w':=by
 have hu47:=Tryz.underlying47
 have HR0:=aK hr0
 have HC0:=aK hc0
 clear hr0 hc0
 have HB:=aK (Below.refl w.heap.size w)
 have H:((fleuronref18_plus.f k l0 a1_0 a1_1).bind fun t268=>((fleuronref18_plus.f k l0 a2_0 a2_1).bind fun t271=>(if t268.length+t271.length<8796093022208 then ((fleuronref18_Round.f (t268++t271)).bind fun t277=>(some t277)) else (none))))=some r:=h
 clear h
 replace H:=Option.bind_eq_some_iff.mp H
 obtain ⟨t268,A40,H⟩:=H
 replace H:((fleuronref18_plus.f k l0 a2_0 a2_1).bind fun t271=>(if t268.length+t271.length<8796093022208 then ((fleuronref18_Round.f (t268++t271)).bind fun t277=>(some t277)) else (none)))=some r:=H
 have A4:=aK A40
 clear A40
 replace H:=Option.bind_eq_some_iff.mp H
 obtain ⟨t271,A50,H⟩:=H
 replace H:(if t268.length+t271.length<8796093022208 then ((fleuronref18_Round.f (t268++t271)).bind fun t277=>(some t277)) else (none))=some r:=H
 have A5:=aK A50
 clear A50
 by_cases c6:t268.length+t271.length<8796093022208
 ·rw [if_pos c6] at H
  have LMc6:=aK c6
  clear c6
  obtain ⟨y274,hy274⟩ : ∃ y_:List (S47),y_=(t268++t271):=⟨_,rfl⟩
  replace H:((fleuronref18_Round.f y274).bind fun t277=>(some t277))=some r:=by first|(rw [hy274];with_reducible exact H)|(have H2_:=(Option.bind_some _ _).symm.trans H;rw [hy274];with_reducible exact H2_)|(have H2_:=(Option.bind_some _ _).symm.trans H;with_reducible exact H2_)|with_reducible exact H|(rw [hy274];exact H)|exact H
  have Ny274:=aK hy274
  clear hy274
  replace H:=Option.bind_eq_some_iff.mp H
  obtain ⟨t277,A70,H⟩:=H
  replace H:(some t277)=some r:=H
  have A7:=aK A70
  clear A70
  obtain rfl:=Option.some.inj H
  go_enter Tryz.func86,Tryz.ntmps86
  try go_wp2_with (first|((with_reducible refine gate_dst (N:=4) rfl ?_);refine box_event ?hg (N:=4) ?hd (cs:=#[.int .i64 a1_0,.int .i64 a1_1]) (t:=47) ?hr ?_;(case hd=>rfl);(case hg=>rfl);(case hr=>first|(go_simp;done)|(go_simp;rfl));intro gb266 hg w8 hbox hb;have n0_:=aK (below_step (by repeat (first|(with_reducible first|exact HB.out|apply below_alloc|apply pw_below_drewN|apply below_drew1)|exact HB.out)) hb);have n1_:=aK (hbox);have n2_:=aK ((by rw [hg];exact (below_size (by repeat (first|(with_reducible first|exact HB.out|apply below_alloc|apply pw_below_drewN|apply below_drew1)|exact HB.out))):w.heap.size≤gb266));have n3_:=n2_;clear HB;have HB:=n0_;have BK266:=n1_;have GW266:=n2_;have GE266:=n3_;clear n0_ n1_ n2_ n3_;clear hb hbox hg)|((with_reducible refine gate_dst (N:=5) rfl ?_);refine box_event ?hg (N:=5) ?hd (cs:=#[.int .i64 a2_0,.int .i64 a2_1]) (t:=47) ?hr ?_;(case hd=>rfl);(case hg=>rfl);(case hr=>first|(go_simp;done)|(go_simp;rfl));intro gb267 hg w9 hbox hb;have n0_:=aK (blk_below (g:=gb266) (o:=.cells #[.int .i64 a1_0,.int .i64 a1_1] 47 (0,0)) (by (with_reducible repeat (first|refine blk_drewN ?_ _|refine blk_drew ?_|refine blk_alloc ?_ _));exact BK266.out) hb);have n1_:=aK (below_step (by repeat (first|(with_reducible first|exact HB.out|apply below_alloc|apply pw_below_drewN|apply below_drew1|refine below_set ?_ GE266.out)|exact HB.out)) hb);have n2_:=aK (hbox);have n3_:=aK ((by rw [hg];exact (below_size (by repeat (first|(with_reducible first|exact HB.out|apply below_alloc|apply pw_below_drewN|apply below_drew1|refine below_set ?_ GE266.out)|exact HB.out))):w.heap.size≤gb267));have n4_:=n3_;have n5_:=aK ((by rw [hg];exact Nat.ne_of_lt (blk_lt (g:=gb266) (o:=.cells #[.int .i64 a1_0,.int .i64 a1_1] 47 (0,0)) (by (with_reducible repeat (first|refine blk_drewN ?_ _|refine blk_drew ?_|refine blk_alloc ?_ _));exact BK266.out)):gb266≠gb267));have n6_:=aK (Ne.symm n5_.out);clear BK266;clear HB;have BK266:=n0_;have HB:=n1_;have BK267:=n2_;have GW267:=n3_;have GE267:=n4_;have NB266_267:=n5_;have NB267_266:=n6_;clear n0_ n1_ n2_ n3_ n4_ n5_ n6_;clear hb hbox hg))
  have n0_:=aK (blk_drew BK266.out)
  have n1_:=aK (blk_drew BK267.out)
  have n2_:=aK (below_drew1 HB.out)
  clear BK266
  clear BK267
  clear HB
  have BK266:=n0_
  have BK267:=n1_
  have HB:=n2_
  clear n0_ n1_ n2_
  refine start_ (n:=9) (S:=fun w'=>w'.cell? ⟨gb266,0,none⟩=some (.int .i64 a1_0)∧w'.cell? ⟨gb266,1,none⟩=some (.int .i64 a1_1)∧w'.cell? ⟨gb267,0,none⟩=some (.int .i64 a2_0)∧w'.cell? ⟨gb267,1,none⟩=some (.int .i64 a2_1)) (ds:=[]) #[false,false,false,false,false,false,false,false,false] (by kernel_rfl) rfl rfl ⟨(blk_cell BK266.out 0).trans rfl,(blk_cell BK266.out 1).trans rfl,(blk_cell BK267.out 0).trans rfl,(blk_cell BK267.out 1).trans rfl⟩ (fun hHeld=>?_);refine with_tabW fleuronref18_Swept.tab1 fleuronref18_Swept.bits1 (fun HT_ HW_=>?_)
  generalize w9.drew=w10 at BK266 BK267 HB hHeld ⊢
  refine pure_ (i:=0) (N:=some 7) (v:=?_) (a':=?_) #[true,false,false,false,false,false,false,false,false] rfl rfl (any_of HT_.out (by kernel_rfl)) (fun _ _ _ h=>h) (Or.inl ⟨by rfl,?_⟩) ?_ ?_
  rotate_left
  ·intro w'
   go_simp
   with_reducible rfl
  rotate_left
  ·simp only [Act.put,lS,i64_w,i32_w]
   rfl
  refine pure_ (i:=3) (N:=some 10) (v:=?_) (a':=?_) #[true,false,false,true,false,false,false,false,false] rfl rfl (any_of HT_.out (by kernel_rfl)) (fun _ _ _ h=>h) (Or.inl ⟨by rfl,?_⟩) ?_ ?_
  rotate_left
  ·intro w'
   go_simp
   with_reducible rfl
  rotate_left
  ·simp only [Act.put,lS,i64_w,i32_w]
   rfl
  refine take_ (i:=1) (N:=some 8) (v:=?_) (a':=?_) #[true,true,false,true,false,false,false,false,false] rfl rfl (take_ofW HT_.out HW_.out (by kernel_rfl)) (fun _ _ _ h=>h) (Or.inl ⟨by rfl,?_⟩) hHeld ?_ ?_
  rotate_left
  ·rintro w' ⟨s0,s1,s2,s3⟩
   go_simp
   with_reducible rfl
  rotate_left
  ·simp only [Act.put,lS,i64_w,i32_w]
   rfl
  refine take_ (i:=4) (N:=some 11) (v:=?_) (a':=?_) #[true,true,false,true,true,false,false,false,false] rfl rfl (take_ofW HT_.out HW_.out (by kernel_rfl)) (fun _ _ _ h=>h) (Or.inl ⟨by rfl,?_⟩) hHeld ?_ ?_
  rotate_left
  ·rintro w' ⟨s0,s1,s2,s3⟩
   go_simp
   with_reducible rfl
  rotate_left
  ·simp only [Act.put,lS,i64_w,i32_w]
   rfl
  refine one_ (i:=2) (N:=some 9) #[true,true,true,true,true,false,false,false,false] rfl rfl (one_of HT_.out (by kernel_rfl)) (by decide) (fun K hK=>?_)
  refine goes_ Tryz.func85 (by kernel_rfl) rfl #[.slice A0 l0.length c0,.agg #[.int .i64 a1_0,.int .i64 a1_1]] (by rfl) rfl rfl (by (try simp only [List.map_toArray,List.map_cons,List.map_nil]);first|done|rfl|(simp only [List.length_drop,List.length_take];rfl)) ?_
  with_reducible refine (fleuronref18_plus.calls k _ _ l0 a1_0 a1_1 t268 _ ?side1 ?side2 A4.out).mono ?_
  (case side1=>repeat (first|exact (Kd.C_below HR0.out HB.out)|(with_reducible refine Kd.C_alloc ?_ _)|(with_reducible refine Kd.C_drewN ?_ _)|(with_reducible refine Kd.C_drew ?_)))
  (case side2=>exact HC0.out)
  rintro e w11 ⟨v269,rfl,ho0,hb⟩
  refine ⟨_,rfl,?_⟩
  have n0_:=aK (Kd.R_lower (Kd.R_newB (Kd.R_newB ho0 (g:=gb266) (o:=.cells #[.int .i64 a1_0,.int .i64 a1_1] 47 (0,0)) (by (with_reducible repeat (first|refine blk_drewN ?_ _|refine blk_drew ?_|refine blk_alloc ?_ _));exact BK266.out)) (g:=gb267) (o:=.cells #[.int .i64 a2_0,.int .i64 a2_1] 47 (0,0)) (by (with_reducible repeat (first|refine blk_drewN ?_ _|refine blk_drew ?_|refine blk_alloc ?_ _));exact BK267.out)) (below_size (by repeat (first|(with_reducible first|exact HB.out|apply below_alloc|apply pw_below_drewN|apply below_drew1|refine below_set ?_ GE266.out|refine below_set ?_ GE267.out)|exact HB.out))))
  have n1_:=aK (blk_below (g:=gb266) (o:=.cells #[.int .i64 a1_0,.int .i64 a1_1] 47 (0,0)) (by (with_reducible repeat (first|refine blk_drewN ?_ _|refine blk_drew ?_|refine blk_alloc ?_ _));exact BK266.out) hb)
  have n2_:=aK (blk_below (g:=gb267) (o:=.cells #[.int .i64 a2_0,.int .i64 a2_1] 47 (0,0)) (by (with_reducible repeat (first|refine blk_drewN ?_ _|refine blk_drew ?_|refine blk_alloc ?_ _));exact BK267.out) hb)
  have n3_:=aK (below_step (by repeat (first|(with_reducible first|exact HB.out|apply below_alloc|apply pw_below_drewN|apply below_drew1|refine below_set ?_ GE266.out|refine below_set ?_ GE267.out)|exact HB.out)) hb)
  clear BK266
  clear BK267
  clear HB
  have HO270:=n0_
  have BK266:=n1_
  have BK267:=n2_
  have HB:=n3_
  clear n0_ n1_ n2_ n3_
  (try clear hb)
  (try clear hb2)
  (try clear hk)
  (try clear hi)
  (try clear ho0)
  refine hK.out _ _ ⟨(blk_cell BK266.out 0).trans rfl,(blk_cell BK266.out 1).trans rfl,(blk_cell BK267.out 0).trans rfl,(blk_cell BK267.out 1).trans rfl⟩ (fun hHeld=>?_)
  clear hK K
  refine norm_ (a':=?_) ?_ ?_
  rotate_left
  ·show Act.put _ (some 9) _=_
   simp only [Act.put,lS,i64_w,i32_w]
   rfl
  refine one_ (i:=5) (N:=some 12) #[true,true,true,true,true,true,false,false,false] rfl rfl (one_of HT_.out (by kernel_rfl)) (by decide) (fun K hK=>?_)
  refine goes_ Tryz.func85 (by kernel_rfl) rfl #[.slice A0 l0.length c0,.agg #[.int .i64 a2_0,.int .i64 a2_1]] (by rfl) rfl rfl (by (try simp only [List.map_toArray,List.map_cons,List.map_nil]);first|done|rfl|(simp only [List.length_drop,List.length_take];rfl)) ?_
  with_reducible refine (fleuronref18_plus.calls k _ _ l0 a2_0 a2_1 t271 _ ?side1 ?side2 A5.out).mono ?_
  (case side1=>repeat (first|exact (Kd.C_below HR0.out HB.out)|(with_reducible refine Kd.C_alloc ?_ _)|(with_reducible refine Kd.C_drewN ?_ _)|(with_reducible refine Kd.C_drew ?_)))
  (case side2=>exact HC0.out)
  rintro e w12 ⟨v272,rfl,ho0,hb⟩
  refine ⟨_,rfl,?_⟩
  have n0_:=aK (Kd.R_elder' (by (with_reducible repeat (first|apply Kd.R_alloc|apply Kd.R_drewN|apply Kd.R_drew));exact HO270.out) (Kd.R_base ho0) hb)
  have n1_:=aK (Kd.R_lower (Kd.R_newB (Kd.R_newB (Kd.R_new' ho0 (Kd.R_lt (by (with_reducible repeat (first|apply Kd.R_alloc|apply Kd.R_drewN|apply Kd.R_drew));exact HO270.out))) (g:=gb266) (o:=.cells #[.int .i64 a1_0,.int .i64 a1_1] 47 (0,0)) (by (with_reducible repeat (first|refine blk_drewN ?_ _|refine blk_drew ?_|refine blk_alloc ?_ _));exact BK266.out)) (g:=gb267) (o:=.cells #[.int .i64 a2_0,.int .i64 a2_1] 47 (0,0)) (by (with_reducible repeat (first|refine blk_drewN ?_ _|refine blk_drew ?_|refine blk_alloc ?_ _));exact BK267.out)) (below_size (by repeat (first|(with_reducible first|exact HB.out|apply below_alloc|apply pw_below_drewN|apply below_drew1|refine below_set ?_ GE266.out|refine below_set ?_ GE267.out)|exact HB.out))))
  have n2_:=aK (blk_below (g:=gb266) (o:=.cells #[.int .i64 a1_0,.int .i64 a1_1] 47 (0,0)) (by (with_reducible repeat (first|refine blk_drewN ?_ _|refine blk_drew ?_|refine blk_alloc ?_ _));exact BK266.out) hb)
  have n3_:=aK (blk_below (g:=gb267) (o:=.cells #[.int .i64 a2_0,.int .i64 a2_1] 47 (0,0)) (by (with_reducible repeat (first|refine blk_drewN ?_ _|refine blk_drew ?_|refine blk_alloc ?_ _));exact BK267.out) hb)
  have n4_:=aK (below_step (by repeat (first|(with_reducible first|exact HB.out|apply below_alloc|apply pw_below_drewN|apply below_drew1|refine below_set ?_ GE266.out|refine below_set ?_ GE267.out)|exact HB.out)) hb)
  clear HO270
  clear BK266
  clear BK267
  clear HB
  have HO270:=n0_
  have HO273:=n1_
  have BK266:=n2_
  have BK267:=n3_
  have HB:=n4_
  clear n0_ n1_ n2_ n3_ n4_
  (try clear hb)
  (try clear hb2)
  (try clear hk)
  (try clear hi)
  (try clear ho0)
  obtain ⟨Ao14,co14,eo14⟩:=Kd.R_slice HO273.out
  (first|subst eo14|(injection eo14 with f1_ f2_ f3_;have f4_:=f1_.symm;have f5_:=f3_.symm;clear f1_ f2_ f3_;subst f4_;subst f5_))
  refine hK.out _ _ ⟨(blk_cell BK266.out 0).trans rfl,(blk_cell BK266.out 1).trans rfl,(blk_cell BK267.out 0).trans rfl,(blk_cell BK267.out 1).trans rfl⟩ (fun hHeld=>?_)
  clear hK K
  refine norm_ (a':=?_) ?_ ?_
  rotate_left
  ·show Act.put _ (some 12) _=_
   simp only [Act.put,lS,i64_w,i32_w]
   rfl
  refine one_ (i:=6) (N:=some 13) #[true,true,true,true,true,true,true,false,false] rfl rfl (one_of HT_.out (by kernel_rfl)) (by decide) (fun K hK=>?_)
  refine Kd.R_append_rows_step k47 (w0:=w) w.heap.size (by rfl) (.tmp 9) (.tmp 12) 34 47 (.agg #[(.int .i64 0),(.int .i64 0)]) 16 rfl Tryz.underlying34 info47 rfl (by decide) (by omega) v269 t268 t271 _ _ _ (fun k_=>some k_≠(.slice Ao14 t271.length co14:Value).ownBlock∧k_≠gb266∧k_≠gb267) (fun _=>False) rfl rfl ?aO ?aR (fun _ _ h=>h) (fun _ h=>h.elim) ?aF ?aB ?aS ?aL ?_
  (case aR=>repeat (first|exact (Kd.R_reads' HO273.out).2.2|(with_reducible refine Kd.C_alloc ?_ _)|(with_reducible refine Kd.C_drewN ?_ _)|(with_reducible refine Kd.C_drew ?_)))
  (case aB=>exact (by repeat (first|(with_reducible first|exact HB.out|apply below_alloc|apply pw_below_drewN|apply below_drew1|refine below_set ?_ GE266.out|refine below_set ?_ GE267.out)|exact HB.out)))
  (case aF=>exact (fun k_ hk=>⟨Kd.fresh' (Kd.R_lt (by (with_reducible repeat (first|apply Kd.R_alloc|apply Kd.R_drewN|apply Kd.R_drew));exact HO273.out)) k_ hk,Kd.freshB (g:=gb266) (o:=.cells #[.int .i64 a1_0,.int .i64 a1_1] 47 (0,0)) (by (with_reducible repeat (first|refine blk_drewN ?_ _|refine blk_drew ?_|refine blk_alloc ?_ _));exact BK266.out) k_ hk,Kd.freshB (g:=gb267) (o:=.cells #[.int .i64 a2_0,.int .i64 a2_1] 47 (0,0)) (by (with_reducible repeat (first|refine blk_drewN ?_ _|refine blk_drew ?_|refine blk_alloc ?_ _));exact BK267.out) k_ hk⟩))
  (case aO=>exact (by (with_reducible repeat (first|apply Kd.R_alloc|apply Kd.R_drewN|apply Kd.R_drew));exact Kd.R_mono HO270.out (fun _ hk=>⟨hk.2,⟨hk.1.1.2,hk.1.2⟩⟩)))
  (case aS=>exact (below_size (by repeat (first|(with_reducible first|exact HB.out|apply below_alloc|apply pw_below_drewN|apply below_drew1|refine below_set ?_ GE266.out|refine below_set ?_ GE267.out)|exact HB.out))))
  (case aL=>have:=LMc6.out;omega)
  intro v275 w13 ho hb hg hat
  rw [← Ny274.out] at ho
  have n0_:=aK (blk_grown (g:=gb266) (o:=.cells #[.int .i64 a1_0,.int .i64 a1_1] 47 (0,0)) (by (with_reducible repeat (first|refine blk_drewN ?_ _|refine blk_drew ?_|refine blk_alloc ?_ _));exact BK266.out) hg (Kd.R_away HO270.out (fun _ hk=>hk.1.1.2)))
  have n1_:=aK (blk_grown (g:=gb267) (o:=.cells #[.int .i64 a2_0,.int .i64 a2_1] 47 (0,0)) (by (with_reducible repeat (first|refine blk_drewN ?_ _|refine blk_drew ?_|refine blk_alloc ?_ _));exact BK267.out) hg (Kd.R_away HO270.out (fun _ hk=>hk.1.2)))
  have n2_:=aK (Kd.R_after (ok:=(fun k_=>k_≠gb266∧k_≠gb267)) (by (with_reducible repeat (first|apply Kd.R_alloc|apply Kd.R_drewN|apply Kd.R_drew));exact Kd.R_mono HO273.out (fun _ hk=>⟨⟨hk.1.2,hk.2⟩,hk.1.1.2⟩)) hg hat)
  have n3_:=aK (hb)
  have n4_:=aK (ho)
  clear BK266
  clear BK267
  clear HO273
  clear HB
  clear HO270
  have BK266:=n0_
  have BK267:=n1_
  have HO273:=n2_
  have HB:=n3_
  have HO276:=n4_
  clear n0_ n1_ n2_ n3_ n4_
  clear ho hb hg hat
  obtain ⟨Ao15,co15,eo15⟩:=Kd.R_slice HO276.out
  (first|subst eo15|(injection eo15 with f1_ f2_ f3_;have f4_:=f1_.symm;have f5_:=f3_.symm;clear f1_ f2_ f3_;subst f4_;subst f5_))
  refine hK.out _ _ ⟨(blk_cell BK266.out 0).trans rfl,(blk_cell BK266.out 1).trans rfl,(blk_cell BK267.out 0).trans rfl,(blk_cell BK267.out 1).trans rfl⟩ (fun hHeld=>?_)
  clear hK K
  refine norm_ (a':=?_) ?_ ?_
  rotate_left
  ·show Act.put _ (some 13) _=_
   simp only [Act.put,lS,i64_w,i32_w]
   rfl
  refine one_ (i:=7) (N:=some 14) #[true,true,true,true,true,true,true,true,false] rfl rfl (one_of HT_.out (by kernel_rfl)) (by decide) (fun K hK=>?_)
  refine goes_ Tryz.func109 (by kernel_rfl) rfl #[.slice Ao15 y274.length co15] (by rfl) rfl rfl (by (try simp only [List.map_toArray,List.map_cons,List.map_nil]);first|done|rfl|(simp only [List.length_drop,List.length_take];rfl)) ?_
  with_reducible refine (fleuronref18_Round.calls _ _ y274 t277 _ ?side1 ?side2 A7.out).mono ?_
  (case side1=>repeat (first|exact (Kd.R_reads' HO276.out).2.2|(with_reducible refine Kd.C_alloc ?_ _)|(with_reducible refine Kd.C_drewN ?_ _)|(with_reducible refine Kd.C_drew ?_)))
  (case side2=>exact (Kd.R_reads' HO276.out).2.1)
  rintro e w16 ⟨v278,rfl,ho0,hb⟩
  refine ⟨_,rfl,?_⟩
  have n0_:=aK (Kd.R_elder' (by (with_reducible repeat (first|apply Kd.R_alloc|apply Kd.R_drewN|apply Kd.R_drew));exact HO273.out) (Kd.R_base ho0) hb)
  have n1_:=aK (Kd.R_elder' (by (with_reducible repeat (first|apply Kd.R_alloc|apply Kd.R_drewN|apply Kd.R_drew));exact HO276.out) (Kd.R_base ho0) hb)
  have n2_:=aK (Kd.R_lower (Kd.R_newB (Kd.R_newB (Kd.R_new' (Kd.R_new' ho0 (Kd.R_lt (by (with_reducible repeat (first|apply Kd.R_alloc|apply Kd.R_drewN|apply Kd.R_drew));exact HO273.out))) (Kd.R_lt (by (with_reducible repeat (first|apply Kd.R_alloc|apply Kd.R_drewN|apply Kd.R_drew));exact HO276.out))) (g:=gb266) (o:=.cells #[.int .i64 a1_0,.int .i64 a1_1] 47 (0,0)) (by (with_reducible repeat (first|refine blk_drewN ?_ _|refine blk_drew ?_|refine blk_alloc ?_ _));exact BK266.out)) (g:=gb267) (o:=.cells #[.int .i64 a2_0,.int .i64 a2_1] 47 (0,0)) (by (with_reducible repeat (first|refine blk_drewN ?_ _|refine blk_drew ?_|refine blk_alloc ?_ _));exact BK267.out)) (below_size (by repeat (first|(with_reducible first|exact HB.out|apply below_alloc|apply pw_below_drewN|apply below_drew1|refine below_set ?_ GE266.out|refine below_set ?_ GE267.out)|exact HB.out))))
  have n3_:=aK (blk_below (g:=gb266) (o:=.cells #[.int .i64 a1_0,.int .i64 a1_1] 47 (0,0)) (by (with_reducible repeat (first|refine blk_drewN ?_ _|refine blk_drew ?_|refine blk_alloc ?_ _));exact BK266.out) hb)
  have n4_:=aK (blk_below (g:=gb267) (o:=.cells #[.int .i64 a2_0,.int .i64 a2_1] 47 (0,0)) (by (with_reducible repeat (first|refine blk_drewN ?_ _|refine blk_drew ?_|refine blk_alloc ?_ _));exact BK267.out) hb)
  have n5_:=aK (below_step (by repeat (first|(with_reducible first|exact HB.out|apply below_alloc|apply pw_below_drewN|apply below_drew1|refine below_set ?_ GE266.out|refine below_set ?_ GE267.out)|exact HB.out)) hb)
  clear HO273
  clear HO276
  clear BK266
  clear BK267
  clear HB
  have HO273:=n0_
  have HO276:=n1_
  have HO279:=n2_
  have BK266:=n3_
  have BK267:=n4_
  have HB:=n5_
  clear n0_ n1_ n2_ n3_ n4_ n5_
  (try clear hb)
  (try clear hb2)
  (try clear hk)
  (try clear hi)
  (try clear ho0)
  refine hK.out _ _ ⟨(blk_cell BK266.out 0).trans rfl,(blk_cell BK266.out 1).trans rfl,(blk_cell BK267.out 0).trans rfl,(blk_cell BK267.out 1).trans rfl⟩ (fun hHeld=>?_)
  clear hK K
  refine norm_ (a':=?_) ?_ ?_
  rotate_left
  ·show Act.put _ (some 14) _=_
   simp only [Act.put,lS,i64_w,i32_w]
   rfl
  refine pure_ (i:=8) (N:=some 6) (v:=?_) (a':=?_) #[true,true,true,true,true,true,true,true,true] rfl rfl (any_of HT_.out (by kernel_rfl)) (fun _ _ _ h=>h) (Or.inl ⟨by rfl,?_⟩) ?_ ?_
  rotate_left
  ·intro w'
   go_simp
   with_reducible rfl
  rotate_left
  ·simp only [Act.put,lS,i64_w,i32_w]
   rfl
  refine done_ (done_of HT_.out (by kernel_rfl)) ?_
  try go_wp2
  go_ret
  exact ⟨_,by first|rfl|(simp [errW_none,errW_some] <;> rfl)|(simp [*,errW_none,errW_some] <;> rfl),by (with_reducible repeat (first|apply Kd.R_alloc|apply Kd.R_drewN|apply Kd.R_drew));exact Kd.R_mono HO279.out (fun _ hk=>trivial),by repeat (first|(with_reducible first|exact HB.out|apply below_alloc|apply pw_below_drewN|apply below_drew1|refine below_set ?_ GE266.out|refine below_set ?_ GE267.out)|exact HB.out)⟩
 ·rw [if_neg c6] at H
  exact absurd H (by simp)
end Go.Proofs.YtckjlckhjcbddaaGreat.PG3
