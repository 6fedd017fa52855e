import Derived.Test.YtckjlckhjcbddaaGreatPG3x0
import Derived.Test.YtckjlckhjcbddaaGreatPG3x3
import Derived.Test.YtckjlckhjcbddaaGreatPG3x5
import Derived.Test.YtckjlckhjcbddaaGreatPG3x6
import Derived.Test.YtckjlckhjcbddaaGreatPG3x8
import Derived.Test.YtckjlckhjcbddaaGreatPG3x9
import Derived.Test.YtckjlckhjcbddaaGreatPG3x11
set_option maxRecDepth 100000
namespace Go.Proofs.YtckjlckhjcbddaaGreat.PG3
open Go.RowKit Go.Proofs.YtckjlckhjcbddaaGreatW.PrintWords Go.Proofs.YtckjlckhjcbddaaGreatW.PrintLast Go.Proofs.YtckjlckhjcbddaaGreatW.PrintMore
attribute [local go_sem] max2_int min2_int max_two min_two max_three min_three max_four min_four
private theorem run_ix92_0 (w:World) (a b c d:Value):(Instr.index 92 (.agg #[a,b,c,d]) (.int .i64 0)).run Tryz.prog w = .ok (.agg #[a,b]) w:=by
 simp [Instr.index,go_sem,Tryz.isAgg47,Tryz.sizeOf47]
private theorem run_ix92_1 (w:World) (a b c d:Value):(Instr.index 92 (.agg #[a,b,c,d]) (.int .i64 1)).run Tryz.prog w = .ok (.agg #[c,d]) w:=by
 simp [Instr.index,go_sem,Tryz.isAgg47,Tryz.sizeOf47]
private theorem run_fd47_0 (w:World) (a b:Value):(Instr.field 47 (.agg #[a,b]) 0).run Tryz.prog w = .ok a w:=by
 simp [Instr.field,go_sem,asAgg,Tryz.isAgg3,Tryz.sizeOf3]
private theorem run_fd47_1 (w:World) (a b:Value):(Instr.field 47 (.agg #[a,b]) 1).run Tryz.prog w = .ok b w:=by
 simp [Instr.field,go_sem,asAgg,Tryz.isAgg3,Tryz.sizeOf3]
attribute [local go_sem high] run_ix92_0 run_ix92_1 run_fd47_0 run_fd47_1
set_option linter.unusedVariables false
set_option linter.unusedSimpArgs false
def scan_Pen.f (k:Nat) (l0:List (S47)) (l1:List (S47)) (a2:Int) (a3:Int):Option ((List (S23))×Int):=(pen_Valid.f l0).bind fun t423=>(if t423=true then ((pen_ValidLine.f l1).bind fun t424=>(if t424=true then ((scan_isRow.f a2 a3).bind fun t425=>(if t425=true then ((scan_Covered.f k l0 l1 a2 a3).bind fun t426=>(some (t426,0))) else (some (([]:List (S23)),2)))) else (some (([]:List (S23)),2)))) else (some (([]:List (S23)),2)))
theorem scan_Pen.mono : ∀ a0 a1 a2 a3 k,LeO (scan_Pen.f k a0 a1 a2 a3) (scan_Pen.f (k+1) a0 a1 a2 a3):=by
 intro a0 a1 a2 a3 k
 unfold scan_Pen.f
 repeat' first
   | (with_reducible exact scan_Covered.mono _ _ _ _ _)
   | (with_reducible exact LeO.refl _)
   | (with_reducible exact LeO.none _)
   | (with_reducible refine LeO.ite ?_ ?_)
   | (with_reducible refine LeO.bind ?_ (fun _=>?_))
   | exact scan_Covered.mono _ _ _ _ _
   | exact LeO.none _
   | refine LeO.ite ?_ ?_
   | refine LeO.bind ?_ (fun _=>?_)
set_option maxHeartbeats 8000000 in
theorem scan_Pen.calls (k:Nat) (A0:Option Addr) (c0:Nat) (l0:List (S47)) (A1:Option Addr) (c1:Nat) (l1:List (S47)) (a2:Int) (a3:Int) (r1:List (S23)) (r2:Int) (w:World) (hr0:Kd.C k47 w A0 l0.length l0) (hc0:l0.length≤c0) (hr1:Kd.C k47 w A1 l1.length l1) (hc1:l1.length≤c1) (h:scan_Pen.f k l0 l1 a2 a3=some (r1,r2)) :
  Calls Tryz.prog 15 #[.slice A0 l0.length c0,.slice A1 l1.length c1,.int .i64 a2,.int .i64 a3] w fun e w'=>∃ v0_:Value,e = .returned (.tuple #[v0_,.int .i64 r2])∧Kd.R k23 23 w' w.heap.size (fun _=>True) v0_ r1∧Below w.heap.size w w':=by
 have HR0:=aK hr0
 have HC0:=aK hc0
 clear hr0 hc0
 have HR1:=aK hr1
 have HC1:=aK hc1
 clear hr1 hc1
 have HB:=aK (Below.refl w.heap.size w)
 have H:((pen_Valid.f l0).bind fun t423=>(if t423=true then ((pen_ValidLine.f l1).bind fun t424=>(if t424=true then ((scan_isRow.f a2 a3).bind fun t425=>(if t425=true then ((scan_Covered.f k l0 l1 a2 a3).bind fun t426=>(some (t426,0))) else (some (([]:List (S23)),2)))) else (some (([]:List (S23)),2)))) else (some (([]:List (S23)),2))))=some (r1,r2):=h
 clear h
 replace H:=Option.bind_eq_some_iff.mp H
 obtain ⟨t423,A50,H⟩:=H
 replace H:(if t423=true then ((pen_ValidLine.f l1).bind fun t424=>(if t424=true then ((scan_isRow.f a2 a3).bind fun t425=>(if t425=true then ((scan_Covered.f k l0 l1 a2 a3).bind fun t426=>(some (t426,0))) else (some (([]:List (S23)),2)))) else (some (([]:List (S23)),2)))) else (some (([]:List (S23)),2)))=some (r1,r2):=H
 have A5:=aK A50
 clear A50
 by_cases c6:t423=true
 ·subst c6
  have H1:((pen_ValidLine.f l1).bind fun t424=>(if t424=true then ((scan_isRow.f a2 a3).bind fun t425=>(if t425=true then ((scan_Covered.f k l0 l1 a2 a3).bind fun t426=>(some (t426,0))) else (some (([]:List (S23)),2)))) else (some (([]:List (S23)),2))))=some (r1,r2):=by rw [if_pos rfl] at H;exact H
  clear H
  have H:=H1
  clear H1
  replace H:=Option.bind_eq_some_iff.mp H
  obtain ⟨t424,A70,H⟩:=H
  replace H:(if t424=true then ((scan_isRow.f a2 a3).bind fun t425=>(if t425=true then ((scan_Covered.f k l0 l1 a2 a3).bind fun t426=>(some (t426,0))) else (some (([]:List (S23)),2)))) else (some (([]:List (S23)),2)))=some (r1,r2):=H
  have A7:=aK A70
  clear A70
  by_cases c8:t424=true
  ·subst c8
   have H1:((scan_isRow.f a2 a3).bind fun t425=>(if t425=true then ((scan_Covered.f k l0 l1 a2 a3).bind fun t426=>(some (t426,0))) else (some (([]:List (S23)),2))))=some (r1,r2):=by rw [if_pos rfl] at H;exact H
   clear H
   have H:=H1
   clear H1
   replace H:=Option.bind_eq_some_iff.mp H
   obtain ⟨t425,A90,H⟩:=H
   replace H:(if t425=true then ((scan_Covered.f k l0 l1 a2 a3).bind fun t426=>(some (t426,0))) else (some (([]:List (S23)),2)))=some (r1,r2):=H
   have A9:=aK A90
   clear A90
   by_cases c10:t425=true
   ·subst c10
    have H1:((scan_Covered.f k l0 l1 a2 a3).bind fun t426=>(some (t426,0)))=some (r1,r2):=by rw [if_pos rfl] at H;exact H
    clear H
    have H:=H1
    clear H1
    replace H:=Option.bind_eq_some_iff.mp H
    obtain ⟨t426,A110,H⟩:=H
    replace H:(some (t426,0))=some (r1,r2):=H
    have A11:=aK A110
    clear A110
    simp only [Option.some.injEq,Prod.mk.injEq] at H
    obtain ⟨rfl,rfl⟩:=H
    go_enter Tryz.func15,Tryz.ntmps15
    go_wp2_with (first|((with_reducible refine gate_callee (f:=42) rfl ?_);refine goesL_ (some 11) rfl rfl Tryz.func42 (by kernel_rfl) rfl #[.slice A0 l0.length c0] rfl (by (try simp only [List.map_toArray,List.map_cons,List.map_nil]);first|done|rfl|(simp only [List.length_drop,List.length_take];rfl)) ?_;(with_reducible refine (pen_Valid.calls _ _ l0 true _ ?side1 ?side2 A5.out).mono ?_);(case side1=>repeat (first|exact HR0.out|(with_reducible refine Kd.C_alloc ?_ _)|(with_reducible refine Kd.C_drewN ?_ _)|(with_reducible refine Kd.C_drew ?_)));(case side2=>exact HC0.out);rintro e w12 ⟨rfl,hb⟩;refine ⟨_,rfl,?_⟩;have n0_:=aK (below_step (by repeat (first|(with_reducible first|exact HB.out|apply below_alloc|apply pw_below_drewN|apply below_drew1)|exact HB.out)) hb);clear HB;have HB:=n0_;clear n0_;(try clear hb);(try clear hb2);(try clear hk);(try clear hi))|(go_at_call 43;(with_reducible refine (pen_ValidLine.calls _ _ l1 true _ ?side1 ?side2 A7.out).mono ?_);(case side1=>repeat (first|exact (Kd.C_below HR1.out HB.out)|(with_reducible refine Kd.C_alloc ?_ _)|(with_reducible refine Kd.C_drewN ?_ _)|(with_reducible refine Kd.C_drew ?_)));(case side2=>exact HC1.out);rintro e w13 ⟨rfl,hb⟩;have n0_:=aK (below_step (by repeat (first|(with_reducible first|exact HB.out|apply below_alloc|apply pw_below_drewN|apply below_drew1)|exact HB.out)) hb);clear HB;have HB:=n0_;clear n0_;(try clear hb);(try clear hb2);(try clear hk);(try clear hi))|(go_at_call 34;(with_reducible refine (scan_isRow.calls a2 a3 true _ A9.out).mono ?_);rintro e w' ⟨rfl,⟨nd,rfl⟩⟩)|((with_reducible refine gate_callee (f:=44) rfl ?_);refine goesL_ (some 28) rfl rfl Tryz.func44 (by kernel_rfl) rfl #[.slice A0 l0.length c0,.slice A1 l1.length c1,.int .i64 a2,.int .i64 a3] rfl (by (try simp only [List.map_toArray,List.map_cons,List.map_nil]);first|done|rfl|(simp only [List.length_drop,List.length_take];rfl)) ?_;(with_reducible refine (scan_Covered.calls k _ _ l0 _ _ l1 a2 a3 t426 _ ?side1 ?side2 ?side3 ?side4 A11.out).mono ?_);(case side1=>repeat (first|exact (Kd.C_below HR0.out (by repeat (first|(with_reducible first|exact HB.out|apply below_alloc|apply pw_below_drewN|apply below_drew1)|exact HB.out)))|(with_reducible refine Kd.C_alloc ?_ _)|(with_reducible refine Kd.C_drewN ?_ _)|(with_reducible refine Kd.C_drew ?_)));(case side2=>exact HC0.out);(case side3=>repeat (first|exact (Kd.C_below HR1.out (by repeat (first|(with_reducible first|exact HB.out|apply below_alloc|apply pw_below_drewN|apply below_drew1)|exact HB.out)))|(with_reducible refine Kd.C_alloc ?_ _)|(with_reducible refine Kd.C_drewN ?_ _)|(with_reducible refine Kd.C_drew ?_)));(case side4=>exact HC1.out);rintro e w14 ⟨v427,rfl,ho0,hb⟩;refine ⟨_,rfl,?_⟩;have n0_:=aK (Kd.R_lower ho0 (below_size (by repeat (first|(with_reducible first|exact HB.out|apply below_alloc|apply pw_below_drewN|apply below_drew1)|exact HB.out))));have n1_:=aK (below_step (by repeat (first|(with_reducible first|exact HB.out|apply below_alloc|apply pw_below_drewN|apply below_drew1)|exact HB.out)) hb);clear HB;have HO428:=n0_;have HB:=n1_;clear n0_ n1_;(try clear hb);(try clear hb2);(try clear hk);(try clear hi);(try clear ho0)))
    go_ret2
    exact ⟨_,by first|rfl|(simp [errW_none,errW_some] <;> rfl)|(simp [*,errW_none,errW_some] <;> rfl),by (with_reducible repeat (first|apply Kd.R_alloc|apply Kd.R_drewN|apply Kd.R_drew));exact HO428.out,by repeat (first|(with_reducible first|exact HB.out|apply below_alloc|apply pw_below_drewN|apply below_drew1)|exact HB.out)⟩
   ·replace c10:=Bool.eq_false_iff.mpr c10
    subst c10
    have H1:(some (([]:List (S23)),2))=some (r1,r2):=by rw [if_neg (show ¬ (false=true) by decide)] at H;exact H
    clear H
    have H:=H1
    clear H1
    simp only [Option.some.injEq,Prod.mk.injEq] at H
    obtain ⟨rfl,rfl⟩:=H
    go_enter Tryz.func15,Tryz.ntmps15
    go_wp2_with (first|((with_reducible refine gate_callee (f:=42) rfl ?_);refine goesL_ (some 11) rfl rfl Tryz.func42 (by kernel_rfl) rfl #[.slice A0 l0.length c0] rfl (by (try simp only [List.map_toArray,List.map_cons,List.map_nil]);first|done|rfl|(simp only [List.length_drop,List.length_take];rfl)) ?_;(with_reducible refine (pen_Valid.calls _ _ l0 true _ ?side1 ?side2 A5.out).mono ?_);(case side1=>repeat (first|exact HR0.out|(with_reducible refine Kd.C_alloc ?_ _)|(with_reducible refine Kd.C_drewN ?_ _)|(with_reducible refine Kd.C_drew ?_)));(case side2=>exact HC0.out);rintro e w15 ⟨rfl,hb⟩;refine ⟨_,rfl,?_⟩;have n0_:=aK (below_step (by repeat (first|(with_reducible first|exact HB.out|apply below_alloc|apply pw_below_drewN|apply below_drew1)|exact HB.out)) hb);clear HB;have HB:=n0_;clear n0_;(try clear hb);(try clear hb2);(try clear hk);(try clear hi))|(go_at_call 43;(with_reducible refine (pen_ValidLine.calls _ _ l1 true _ ?side1 ?side2 A7.out).mono ?_);(case side1=>repeat (first|exact (Kd.C_below HR1.out HB.out)|(with_reducible refine Kd.C_alloc ?_ _)|(with_reducible refine Kd.C_drewN ?_ _)|(with_reducible refine Kd.C_drew ?_)));(case side2=>exact HC1.out);rintro e w16 ⟨rfl,hb⟩;have n0_:=aK (below_step (by repeat (first|(with_reducible first|exact HB.out|apply below_alloc|apply pw_below_drewN|apply below_drew1)|exact HB.out)) hb);clear HB;have HB:=n0_;clear n0_;(try clear hb);(try clear hb2);(try clear hk);(try clear hi))|(go_at_call 34;(with_reducible refine (scan_isRow.calls a2 a3 false _ A9.out).mono ?_);rintro e w' ⟨rfl,⟨nd,rfl⟩⟩))
    go_ret2
    exact ⟨_,by first|rfl|(simp [errW_none,errW_some] <;> rfl)|(simp [*,errW_none,errW_some] <;> rfl),by first|exact Kd.R_nil _ _ _ _ _|exact Kd.N_nil _ _ _ _ _|exact Kd.V_nil _ _ _ _ _|exact Kd.Q_nil _ _ _ _ _|exact Kd.S_nil _ _ _ _ _,by repeat (first|(with_reducible first|exact HB.out|apply below_alloc|apply pw_below_drewN|apply below_drew1)|exact HB.out)⟩
  ·replace c8:=Bool.eq_false_iff.mpr c8
   subst c8
   have H1:(some (([]:List (S23)),2))=some (r1,r2):=by rw [if_neg (show ¬ (false=true) by decide)] at H;exact H
   clear H
   have H:=H1
   clear H1
   simp only [Option.some.injEq,Prod.mk.injEq] at H
   obtain ⟨rfl,rfl⟩:=H
   go_enter Tryz.func15,Tryz.ntmps15
   go_wp2_with (first|((with_reducible refine gate_callee (f:=42) rfl ?_);refine goesL_ (some 11) rfl rfl Tryz.func42 (by kernel_rfl) rfl #[.slice A0 l0.length c0] rfl (by (try simp only [List.map_toArray,List.map_cons,List.map_nil]);first|done|rfl|(simp only [List.length_drop,List.length_take];rfl)) ?_;(with_reducible refine (pen_Valid.calls _ _ l0 true _ ?side1 ?side2 A5.out).mono ?_);(case side1=>repeat (first|exact HR0.out|(with_reducible refine Kd.C_alloc ?_ _)|(with_reducible refine Kd.C_drewN ?_ _)|(with_reducible refine Kd.C_drew ?_)));(case side2=>exact HC0.out);rintro e w17 ⟨rfl,hb⟩;refine ⟨_,rfl,?_⟩;have n0_:=aK (below_step (by repeat (first|(with_reducible first|exact HB.out|apply below_alloc|apply pw_below_drewN|apply below_drew1)|exact HB.out)) hb);clear HB;have HB:=n0_;clear n0_;(try clear hb);(try clear hb2);(try clear hk);(try clear hi))|(go_at_call 43;(with_reducible refine (pen_ValidLine.calls _ _ l1 false _ ?side1 ?side2 A7.out).mono ?_);(case side1=>repeat (first|exact (Kd.C_below HR1.out HB.out)|(with_reducible refine Kd.C_alloc ?_ _)|(with_reducible refine Kd.C_drewN ?_ _)|(with_reducible refine Kd.C_drew ?_)));(case side2=>exact HC1.out);rintro e w18 ⟨rfl,hb⟩;have n0_:=aK (below_step (by repeat (first|(with_reducible first|exact HB.out|apply below_alloc|apply pw_below_drewN|apply below_drew1)|exact HB.out)) hb);clear HB;have HB:=n0_;clear n0_;(try clear hb);(try clear hb2);(try clear hk);(try clear hi)))
   go_ret2
   exact ⟨_,by first|rfl|(simp [errW_none,errW_some] <;> rfl)|(simp [*,errW_none,errW_some] <;> rfl),by first|exact Kd.R_nil _ _ _ _ _|exact Kd.N_nil _ _ _ _ _|exact Kd.V_nil _ _ _ _ _|exact Kd.Q_nil _ _ _ _ _|exact Kd.S_nil _ _ _ _ _,by repeat (first|(with_reducible first|exact HB.out|apply below_alloc|apply pw_below_drewN|apply below_drew1)|exact HB.out)⟩
 ·replace c6:=Bool.eq_false_iff.mpr c6
  subst c6
  have H1:(some (([]:List (S23)),2))=some (r1,r2):=by rw [if_neg (show ¬ (false=true) by decide)] at H;exact H
  clear H
  have H:=H1
  clear H1
  simp only [Option.some.injEq,Prod.mk.injEq] at H
  obtain ⟨rfl,rfl⟩:=H
  go_enter Tryz.func15,Tryz.ntmps15
  go_wp2_with ((with_reducible refine gate_callee (f:=42) rfl ?_);refine goesL_ (some 11) rfl rfl Tryz.func42 (by kernel_rfl) rfl #[.slice A0 l0.length c0] rfl (by (try simp only [List.map_toArray,List.map_cons,List.map_nil]);first|done|rfl|(simp only [List.length_drop,List.length_take];rfl)) ?_;(with_reducible refine (pen_Valid.calls _ _ l0 false _ ?side1 ?side2 A5.out).mono ?_);(case side1=>repeat (first|exact HR0.out|(with_reducible refine Kd.C_alloc ?_ _)|(with_reducible refine Kd.C_drewN ?_ _)|(with_reducible refine Kd.C_drew ?_)));(case side2=>exact HC0.out);rintro e w19 ⟨rfl,hb⟩;refine ⟨_,rfl,?_⟩;have n0_:=aK (below_step (by repeat (first|(with_reducible first|exact HB.out|apply below_alloc|apply pw_below_drewN|apply below_drew1)|exact HB.out)) hb);clear HB;have HB:=n0_;clear n0_;(try clear hb);(try clear hb2);(try clear hk);(try clear hi))
  go_ret2
  exact ⟨_,by first|rfl|(simp [errW_none,errW_some] <;> rfl)|(simp [*,errW_none,errW_some] <;> rfl),by first|exact Kd.R_nil _ _ _ _ _|exact Kd.N_nil _ _ _ _ _|exact Kd.V_nil _ _ _ _ _|exact Kd.Q_nil _ _ _ _ _|exact Kd.S_nil _ _ _ _ _,by repeat (first|(with_reducible first|exact HB.out|apply below_alloc|apply pw_below_drewN|apply below_drew1)|exact HB.out)⟩
instance instCr:Inhabited S82:=⟨z82⟩
def encX (x:S82):List Value:=[.int .i64 x.f0,.int .i64 x.f1]
theorem get_flatX (xs:List S82) (j:Nat) (hj:j<xs.length) (q:Nat) (hq:q<2):(Go.Sort.flatK encX 2 xs.toArray)[j*2+q]?=(encX xs[j])[q]?:=by
 have h1:j*2+q<xs.length*2:=by omega
 have h2:(j*2+q) / 2=j:=by omega
 have h3:(j*2+q) % 2=q:=by omega
 have h4:=Go.Sort.get_flatK encX 2 xs.toArray (j*2+q) (by simpa using h1)
 rw [h2,h3] at h4
 have h5:j*2+q<(Go.Sort.flatK encX 2 xs.toArray).size:=by simpa using h1
 have h6:xs.toArray[j]! = xs[j]:=by simp [hj]
 rw [h6,getElem!_pos (Go.Sort.flatK encX 2 xs.toArray) (j*2+q) h5] at h4
 rw [Array.getElem?_eq_getElem h5,h4]
 have h7:q<(encX xs[j]).length:=hq
 rw [getElem!_pos (encX xs[j]) q h7,List.getElem?_eq_getElem h7]
theorem cells_flatX {w:World} {base:Nat} {ok:Nat→Prop} {xs:List S82} {cs:List Value} (h:Reps (k82.M w base ok) k82.sz xs cs):Go.Sort.flatK encX 2 xs.toArray=cs.toArray:=by
 obtain ⟨h1,h2⟩:=h
 have h1':cs.length=xs.length*2:=h1
 apply Array.ext_getElem?
 intro t
 by_cases ht:t<xs.length*2
 ·obtain ⟨j,q,hq,rfl⟩ : ∃ j q,q<2∧t=j*2+q:=⟨t / 2,t % 2,by omega,by omega⟩
  have hj:j<xs.length:=by omega
  rw [get_flatX xs j hj q hq]
  have h3:=k82_openM (h2 j xs[j] (List.getElem?_eq_getElem hj))
  have h4:(cs.drop (j*2)).take 2=encX xs[j]:=h3
  rw [← h4,List.getElem?_take_of_lt hq,List.getElem?_drop]
  simp
 ·rw [Array.getElem?_eq_none (by simp;omega),Array.getElem?_eq_none (by simp;omega)]
theorem reps_flatX {w:World} {base:Nat} {ok:Nat→Prop} (xs:List S82):Reps (k82.M w base ok) k82.sz xs (Go.Sort.flatK encX 2 xs.toArray).toList:=by
 refine ⟨by simp;rfl,fun j p hj=>?_⟩
 obtain ⟨hx,rfl⟩:=List.getElem?_eq_some_iff.1 hj
 have h:(((Go.Sort.flatK encX 2 xs.toArray).toList.drop (j*2)).take 2)=encX xs[j]:=by
  apply List.ext_getElem?
  intro q
  by_cases hq:q<2
  ·rw [List.getElem?_take_of_lt hq,List.getElem?_drop,Array.getElem?_toList,get_flatX xs j hx q hq]
  ·rw [List.getElem?_take_eq_none (by omega),List.getElem?_eq_none (by simp [encX];omega)]
 show k82.M w base ok xs[j] (((Go.Sort.flatK encX 2 xs.toArray).toList.drop (j*2)).take 2)
 rw [h]
 exact k82_mkM w base ok xs[j]
theorem grow_of_belowX {W w':World} (h:Below W.heap.size W w') (hd:W.drawn≤w'.drawn) : ∃ q os',w'=Go.Sort.grow (W.drewN q) os':=by
 refine ⟨w'.drawn-W.drawn,w'.heap.extract W.heap.size w'.heap.size,?_⟩
 have hh:w'.heap=W.heap++w'.heap.extract W.heap.size w'.heap.size:=by
  apply Array.ext_getElem?
  intro i
  rw [Array.getElem?_append]
  by_cases hi:i<W.heap.size
  ·rw [if_pos hi];exact h.block i hi
  ·rw [if_neg hi,Array.getElem?_extract]
   have hs:=h.size
   by_cases hj:i<w'.heap.size
   ·rw [if_pos (by omega)];congr 1;omega
   ·rw [if_neg (by omega),Array.getElem?_eq_none (by omega)]
 have e1:=h.os;have e2:=h.tape;have e3:=h.output
 cases w';cases W
 simp only [Go.Sort.grow,World.drewN] at *
 subst e1;subst e2;subst e3
 congr 1
 omega
def cmpX (x y:S82):Int:=if x.f0<y.f0 then -1 else if y.f0<x.f0 then 1 else 0
set_option maxHeartbeats 4000000 in
theorem cmpX_grows (x y:S82) (W:World):Calls Tryz.prog 72 #[.agg #[.int .i64 x.f0,.int .i64 x.f1],.agg #[.int .i64 y.f0,.int .i64 y.f1]] W fun e w'=>e = .returned (.int .i64 (cmpX x y))∧Below W.heap.size W w'∧W.drawn≤w'.drawn:=by
 have hu:=Tryz.underlying82
 have HC1:=aK (fun V=>cmp_Compare_int.calls x.f0 y.f0 (cmpX x y) V (by rw [compare_int];rfl))
 generalize cmpX x y=r at *
 have X0:=blk_alloc (blk_new W (.cells #[.int .i64 x.f0,.int .i64 x.f1] 82)) (.cells #[.int .i64 y.f0,.int .i64 y.f1] 82)
 have Y0:=blk_new (W.alloc (.cells #[.int .i64 x.f0,.int .i64 x.f1] 82)) (.cells #[.int .i64 y.f0,.int .i64 y.f1] 82)
 simp only [World.size_alloc] at Y0
 have p1:=(blk_cell X0 0).trans rfl
 have p3:=(blk_cell Y0 0).trans rfl
 clear X0 Y0
 go_enter Tryz.func72,Tryz.ntmps72
 go_wp2_with fail
 refine (HC1.out _).mono ?_
 rintro e W1 ⟨rfl,⟨n1,rfl⟩⟩
 go_wp2
 go_ret
 exact ⟨rfl,pw_below_drewN (below_alloc (below_alloc (Below.refl W.heap.size W) _) _) _,by show W.drawn≤W.drawn+n1;omega⟩
theorem cmpX_lt (x y:S82):cmpX x y<0↔x.f0<y.f0:=by
 unfold cmpX
 (repeat' split) <;> omega
theorem cmpX_lays (blk off size:Nat) (w:World):CmpLays Tryz.prog 72 #[] encX 2 cmpX blk off size w:=fun m os dk _ x y =>
 (cmpX_grows x y _).mono fun e w' ⟨he,hb,hd⟩=>⟨he,grow_of_belowX hb hd⟩
theorem cmpX_swo:Go.Sort.SWO (ltOf cmpX):=by
 refine ⟨fun x=>?_,fun x y z h1 h2=>?_,fun x y z h1 h2=>?_⟩ <;> simp only [ltOf,decide_eq_true_eq,decide_eq_false_iff_not,cmpX_lt] at * <;> omega
def Rise (r:List S82):Prop:=r.Pairwise fun x y=>x.f0≤y.f0
theorem sortedX {l0 r:List S82} (hP:Go.Sort.PermIn 0 l0.toArray.size l0.toArray r.toArray) (hS:Go.Sort.SortedIn (ltOf cmpX) 0 l0.toArray.size r.toArray):r.Perm l0∧Rise r:=by
 obtain ⟨h1,_,h2⟩:=hP
 have hn:r.length=l0.length:=by simpa using h1
 refine ⟨?_,?_⟩
 ·have e1:(r.toArray.extract 0 l0.toArray.size).toList=r:=by simp [← hn]
  have e2:(l0.toArray.extract 0 l0.toArray.size).toList=l0:=by simp
  rwa [e1,e2] at h2
 ·unfold Rise
  rw [List.pairwise_iff_getElem]
  intro i j hi hj hij
  have h:=hS i j (Nat.zero_le _) hij (by simpa [← hn] using hj)
  have ei:r.toArray[i]! = r[i]:=by simp [hi]
  have ej:r.toArray[j]! = r[j]:=by simp [hj]
  rw [ei,ej] at h
  simp only [ltOf,decide_eq_false_iff_not,cmpX_lt] at h
  omega
theorem scan_crossing_71.calls (P0_:Nat→Prop) (u9000_:Value) (l0:List S82) (w0 w:World) (hB:Below w0.heap.size w0 w) (ho0:Kd.R k82 82 w w0.heap.size P0_ u9000_ l0) (hl:l0.length<4611686018427387904) :
  Calls Tryz.prog 71 #[u9000_,.func (.func 72) #[] #[]] w fun e w'=>e = .returned (.tuple #[])∧∃ r,r.Perm l0∧Rise r∧Kd.R k82 82 w' w0.heap.size (fun k_=>(P0_ k_∨w.heap.size≤k_)) u9000_ r∧Below w0.heap.size w0 w'∧Kept w w' (fun k_=>P0_ k_):=by
 obtain ⟨h0,inner,ho,hr⟩:=ho0
 have hi:=cells_flatX hr
 rcases ho.2 with ⟨rfl,hn⟩|⟨g,cap,cur,rfl,hbase,hh,hle,hcap,hsz,htk⟩
 ·have hl0:l0=[]:=List.length_eq_zero_iff.mp hn
  subst hl0
  refine (Go.Proofs.AnyF.slices_SortFunc_none Tryz.sortX none 0 _ w).mono ?_
  rintro e w' ⟨rfl,rfl⟩
  exact ⟨rfl,[],List.Perm.refl _,List.Pairwise.nil,Kd.R_nil _ _ _ _ _,hB,Kept.refl _ _⟩
 ·have hk2:k82.sz=2:=rfl
  rw [hk2] at hsz htk
  have hin:inner.length=l0.length*2:=hr.1
  have hH:Go.Sort.HoldsK encX 2 w g 0 l0.toArray:=by
   unfold Go.Sort.HoldsK
   rw [hi]
   exact holds_row hh (by rw [hin];exact htk)
  have hlt:=lt_of_block hh
  refine (Go.Proofs.AnyQ.slices_SortFunc Tryz.sortX 2 Tryz.isAgg82 Tryz.sizeOf82 encX (fun _=>rfl) (fun x v hv=>by simp [encX] at hv;rcases hv with rfl|rfl <;> rfl) cmpX cmpX_swo 72 #[] g 0 cap l0.toArray w (enters_own Tryz.func72 (by kernel_rfl) rfl) (cmpX_lays _ _ _ _) hH hlt (by simpa using hl)).mono ?_
  rintro e w' ⟨rfl,d,n,os,hP,hS,rfl⟩
  obtain ⟨r,rfl⟩ : ∃ r:List S82,d=r.toArray:=⟨d.toList,by simp⟩
  obtain ⟨hperm,hrise⟩:=sortedX hP hS
  have hlen:r.length=l0.length:=hperm.length_eq
  unfold sortWorldK Go.Sort.putRowK
  have hF:(Go.Sort.flatK encX 2 r.toArray).size=l0.length*2:=by simp [hlen]
  have hg0:w.grownBy (Go.Sort.putRow id (Go.Sort.ahead w n) g 0 (Go.Sort.flatK encX 2 r.toArray)) (some g):=grownBy_row _
  have hgw : ∀ (V:World),V.grownBy (Go.Sort.grow V os) none:=fun V=>⟨rfl,rfl,rfl,by simp [Go.Sort.grow],fun k hk _=>by simp [Go.Sort.grow,Array.getElem?_append,hk]⟩
  have hg:w.grownBy (Go.Sort.grow (Go.Sort.putRow id (Go.Sort.ahead w n) g 0 (Go.Sort.flatK encX 2 r.toArray)) os) (some g):=by
   have h2:=hgw (Go.Sort.putRow id (Go.Sort.ahead w n) g 0 (Go.Sort.flatK encX 2 r.toArray))
   exact ⟨h2.os.trans hg0.os,h2.tape.trans hg0.tape,h2.output.trans hg0.output,Nat.le_trans hg0.size h2.size,fun k hk hne=>(h2.block k (Nat.lt_of_lt_of_le hk hg0.size) (by simp)).trans (hg0.block k hk hne)⟩
  have hok:P0_ g:=h0 g (by simp [Value.ownBlock])
  refine ⟨rfl,r,hperm,hrise,?_,?_,?_⟩
  ·refine ⟨fun k hk=>Or.inl (h0 k hk),(Go.Sort.flatK encX 2 r.toArray).toList,?_,reps_flatX r⟩
   have hb2:(Go.Sort.grow (Go.Sort.putRow id (Go.Sort.ahead w n) g 0 (Go.Sort.flatK encX 2 r.toArray)) os).heap[g]?=some (.cells (Go.Sort.putCells id 0 (Go.Sort.flatK encX 2 r.toArray) cur) 82 (0,0)):=by
    have h2:=(hgw (Go.Sort.putRow id (Go.Sort.ahead w n) g 0 (Go.Sort.flatK encX 2 r.toArray))).block g (Nat.lt_of_lt_of_le hlt hg0.size) (by simp)
    rw [h2]
    exact heap_row _ hh
   refine ⟨by rw [hk2,Array.length_toList,hF,hlen],.inr ⟨g,cap,_,by rw [hlen],hbase,hb2,by omega,hcap,by rw [hk2];simp [Go.Sort.putCells,hsz],?_⟩⟩
   have:=take_row cur (Go.Sort.flatK encX 2 r.toArray) (by rw [hF,hsz];omega)
   rw [hk2,hlen]
   rw [hF] at this
   exact this
  ·exact hB.grown hg hB.size (fun k hk=>by injection hk with hk;omega)
  ·exact Kept.of_grown hg (Kept.refl w _) (fun k hk=>by injection hk with hk;subst hk;exact Or.inl hok)
def fromV (v:Int):Int:=(scan_from.f v).getD 0
theorem from_some (v:Int):scan_from.f v=some (fromV v):=by
 unfold fromV scan_from.f scan_floor.f
 rw [if_neg (by decide)]
 split <;> rfl
theorem grown_cellR (W:World) (b j:Nat) (v:Value):W.grownBy (W.setCell ⟨b,j,none⟩ v) (some b) :=
 ⟨rfl,rfl,rfl,by simp [World.setCell],fun k _ hk=>Below.heap_setCell _ _ _ k (fun e=>hk (by rw [e]))⟩
def rowFirst (a b:S47):Int:=mx (fromV (mn a.f1 b.f1)) 0
def rowLast (a b:S47):Int:=mn (wrap64 (fromV (mx a.f1 b.f1)-1)) 255
def rowsE (s:Int×Int) (a b:S47):Int×Int:=if rowFirst a b≤rowLast a b then (mn s.1 (rowFirst a b),mx s.2 (rowLast a b)) else s
set_option maxHeartbeats 4000000 in
theorem rows1_calls (a b:S47) (o0 o1:Int) (bo:Nat) (W:World) (h1:W.heap[bo]?=some (.cells #[.int .i64 o0,.int .i64 o1] 23 (0,0))) :
  Calls Tryz.prog 40 #[edgeV a b,.pointer (some ⟨bo,0,none⟩)] W fun e w'=>e = .returned (.tuple #[])∧W.grownBy w' (some bo)∧w'.heap[bo]?=some (.cells #[.int .i64 (rowsE (o0,o1) a b).1,.int .i64 (rowsE (o0,o1) a b).2] 23 (0,0)):=by
 have hu:=Tryz.underlying47
 have hu2:=Tryz.underlying62
 have hu3:=Tryz.underlying23
 obtain ⟨m,hm⟩ : ∃ m,mn a.f1 b.f1=m:=⟨_,rfl⟩
 obtain ⟨x,hx⟩ : ∃ x,mx a.f1 b.f1=x:=⟨_,rfl⟩
 have hf:=fun V=>scan_from.calls m (fromV m) V (from_some m)
 have hg:=fun V=>scan_from.calls x (fromV x) V (from_some x)
 have hE:rowsE (o0,o1) a b=if mx (fromV m) 0≤mn (wrap64 (fromV x-1)) 255 then (mn o0 (mx (fromV m) 0),mx o1 (mn (wrap64 (fromV x-1)) 255)) else (o0,o1):=by unfold rowsE rowFirst rowLast;rw [hm,hx]
 generalize fromV m=f at *
 generalize fromV x=g at *
 obtain ⟨p,hp⟩ : ∃ p,mx f 0=p:=⟨_,rfl⟩
 obtain ⟨q,hq⟩ : ∃ q,mn (wrap64 (g-1)) 255=q:=⟨_,rfl⟩
 rw [hp,hq] at hE
 have em:(if b.f1<a.f1 then b.f1 else a.f1)=m:=hm
 have ex:(if a.f1<b.f1 then b.f1 else a.f1)=x:=hx
 have ep:(if f<0 then 0 else f)=p:=hp
 have eq:(if 255<wrap64 (g-1) then 255 else wrap64 (g-1))=q:=hq
 have hB:=below_alloc (Below.refl W.heap.size W) (.cells #[.int .i64 a.f0,.int .i64 a.f1,.int .i64 b.f0,.int .i64 b.f1] 62)
 have K1:=blk_alloc h1 (.cells #[.int .i64 a.f0,.int .i64 a.f1,.int .i64 b.f0,.int .i64 b.f1] 62)
 have K2:=blk_new W (.cells #[.int .i64 a.f0,.int .i64 a.f1,.int .i64 b.f0,.int .i64 b.f1] 62)
 have a1:=(blk_cell K2 1).trans rfl
 have a3:=(blk_cell K2 3).trans rfl
 have HF:=aK hf
 have HG:=aK hg
 have HE:=aK hE
 have HB:=aK hB
 have HK1:=aK K1
 clear hf hg hE hm hx hp hq hB K1 K2 h1
 unfold edgeV
 by_cases hpq:p≤q
 ·have d:decide (p≤q)=true:=decide_eq_true hpq
  have HV:=aK (show rowsE (o0,o1) a b=(mn o0 p,mx o1 q) by rw [HE.out,if_pos hpq])
  have e0:(if p<o0 then p else o0)=mn o0 p:=rfl
  have e1:(if o1<q then q else o1)=mx o1 q:=rfl
  generalize mn o0 p=z0 at *
  generalize mx o1 q=z1 at *
  clear hpq HE
  go_enter Tryz.func40,Tryz.ntmps40
  go_wp2
  go_quiet (fail)
  go_wp2_with fail
  refine (HF.out _).mono ?_
  rintro e W1 ⟨rfl,⟨n1,rfl⟩⟩
  go_wp2_with fail
  refine (HG.out _).mono ?_
  rintro e W2 ⟨rfl,⟨n2,rfl⟩⟩
  have K:=aK (blk_drewN (blk_drewN HK1.out (nq+n1)) n2)
  have HBV:=aK (pw_below_drewN (pw_below_drewN HB.out (nq+n1)) n2)
  generalize ((W.alloc (.cells #[.int .i64 a.f0,.int .i64 a.f1,.int .i64 b.f0,.int .i64 b.f1] 62)).drewN (nq+n1)).drewN n2=V at *
  have c0:=(blk_cell K.out 0).trans rfl
  have c1:=(blk_cell K.out 1).trans rfl
  have g0:=blk_frozen K.out 0
  have K2:=blk_set K.out 0 (.int .i64 z0)
  have c2:=(blk_cell K2 1).trans rfl
  have g1:=blk_frozen K2 1
  have K3:=aK (blk_set K2 1 (.int .i64 z1))
  clear K2 a1 a3 HF HG
  go_wp2
  go_end0
  exact ⟨rfl,World.grownBy.trans (grown_of_below HBV.out _) (World.grownBy.trans (grown_cellR _ bo 0 _) (grown_cellR _ bo 1 _)),by rw [HV.out];exact K3.out⟩
 ·have d:decide (p≤q)=false:=decide_eq_false hpq
  have HV:=aK (show rowsE (o0,o1) a b=(o0,o1) by rw [HE.out,if_neg hpq])
  clear hpq HE
  go_enter Tryz.func40,Tryz.ntmps40
  go_wp2
  go_quiet (fail)
  go_wp2_with fail
  refine (HF.out _).mono ?_
  rintro e W1 ⟨rfl,⟨n1,rfl⟩⟩
  go_wp2_with fail
  refine (HG.out _).mono ?_
  rintro e W2 ⟨rfl,⟨n2,rfl⟩⟩
  have K:=aK (blk_drewN (blk_drewN HK1.out (nq+n1)) n2)
  have HBV:=aK (pw_below_drewN (pw_below_drewN HB.out (nq+n1)) n2)
  generalize ((W.alloc (.cells #[.int .i64 a.f0,.int .i64 a.f1,.int .i64 b.f0,.int .i64 b.f1] 62)).drewN (nq+n1)).drewN n2=V at *
  clear a1 a3 HF HG
  go_wp2
  go_end0
  exact ⟨rfl,grown_of_below HBV.out _,by rw [HV.out];exact K.out⟩
def rowEds (s:Int×Int) (l:List S47):Nat→Int×Int
 | 0=>s
 | i+1=>rowsE (rowEds s l i) (rd_T47 l (i:Int)) (nxt l i)
def rowsA (ll:List (List S47)):Nat→Int×Int
 | 0=>(256,-1)
 | i+1=>rowEds (rowsA ll i) (rd_L2 ll (i:Int)) (rd_L2 ll (i:Int)).length
def RowsI (w:World) (l:List S47) (s:Int×Int) (bo:Nat) (i:Nat) (W:World):Prop :=
 Below w.heap.size w W∧W.heap[w.heap.size]?=some (.cells #[.int .i64 0,.int .i64 0] 23 (0,0))∧W.heap[bo]?=some (.cells #[.int .i64 (rowEds s l i).1,.int .i64 (rowEds s l i).2] 23 (0,0))∧w.heap.size<bo
def scan_Rows.f (k:Nat) (l0:List (List S47)):Option (Int×Int×Int):=(wind_ValidAll.f k l0).bind fun v=>if v=true then (if l0.length≤1000000∧∀ l∈l0,l.length≤1000000000 then (if (rowsA l0 l0.length).2<0 then some (0,0,4) else some ((rowsA l0 l0.length).1,(rowsA l0 l0.length).2,0)) else none) else some (0,0,2)
theorem scan_Rows.mono : ∀ a0 k,LeO (scan_Rows.f k a0) (scan_Rows.f (k+1) a0):=by
 intro a0 k
 unfold scan_Rows.f
 exact LeO.bind (wind_ValidAll.mono _ _) (fun _=>LeO.refl _)
set_option maxHeartbeats 8000000 in
theorem scan_Rows.calls (k:Nat) (A0:Option Addr) (c0:Nat) (l0:List (List S47)) (r1 r2 r3:Int) (w:World) (hr0:Kd.C (Kd.slice 47 k47) w A0 l0.length l0) (hc0:l0.length≤c0) (h:scan_Rows.f k l0=some (r1,r2,r3)) :
  Calls Tryz.prog 12 #[.slice A0 l0.length c0] w fun e w'=>e = .returned (.tuple #[.agg #[.int .i64 r1,.int .i64 r2],.int .i64 r3])∧Below w.heap.size w w':=by
 have hu:=Tryz.underlying47
 have hu3:=Tryz.underlying23
 obtain ⟨v,hv,h⟩:=Option.bind_eq_some_iff.mp h
 have HVA:=aK (fun V hV=>wind_ValidAll.calls k A0 c0 l0 v V hV hc0 hv)
 have HR:=aK hr0
 have X0:=aK (blk_new w (.cells #[.int .i64 0,.int .i64 0] 23))
 have HB0:=aK (below_alloc (Below.refl w.heap.size w) (.cells #[.int .i64 0,.int .i64 0] 23))
 clear hv hr0 hc0
 cases v with
 | false =>
  simp only [Bool.false_eq_true,if_false,Option.some.injEq,Prod.mk.injEq] at h
  obtain ⟨rfl,rfl,rfl⟩:=h
  go_enter Tryz.func12,Tryz.ntmps12
  go_wp2_with fail
  refine (HVA.out _ (Kd.C_below HR.out HB0.out)).mono ?_
  rintro e W1 ⟨rfl,hb⟩
  have X1:=blk_below X0.out hb
  have HB1:=aK (below_step HB0.out hb)
  have c0:=(blk_cell X1 0).trans rfl
  have g0:=blk_frozen X1 0
  have X2:=blk_set X1 0 (.int .i64 0)
  have c1:=(blk_cell X2 1).trans rfl
  have g1:=blk_frozen X2 1
  have X3:=aK (blk_set X2 1 (.int .i64 0))
  clear hb X1 X2 HVA
  go_wp2
  refine bodyPost_ret (results_ct rfl _ _ w.heap.size 23 #[.int .i64 0,.int .i64 0] (0,0) _ rfl X3.out Tryz.underlying23 rfl (by kernel_rfl)) rfl ?_
  exact ⟨rfl,below_set (below_set HB1.out (Nat.le_refl _)) (Nat.le_refl _)⟩
 | true =>
  rw [if_pos rfl] at h
  by_cases hl:l0.length≤1000000∧∀ l∈l0,l.length≤1000000000
  case neg=>rw [if_neg hl] at h;cases h
  rw [if_pos hl] at h
  have HL:=aK hl
  have HRES:=aK h
  clear h hl
  go_enter Tryz.func12,Tryz.ntmps12
  go_wp2_with fail
  refine (HVA.out _ (Kd.C_below HR.out HB0.out)).mono ?_
  rintro e W1 ⟨rfl,hb⟩
  have X1:=aK (blk_below X0.out hb)
  have HB1:=aK (below_step HB0.out hb)
  have HLT:=aK (blk_lt (blk_below X0.out hb))
  clear hb HVA
  go_wp2
  go_loopg [14] l0.length (fun gg s14 wr=>∃ kk:Nat,kk≤l0.length∧l0.length≤gg+kk∧s14 = .int .i64 kk∧Aside0 (RowsI w [] (rowsA l0 kk) W1.heap.size 0 wr))
  case atStart=>exact ⟨0,by omega,by omega,rfl,⟨below_alloc HB1.out _,blk_alloc X1.out _,blk_new _ _,HLT.out⟩⟩
  case round =>
   obtain ⟨kk,hkk,hgg,rfl,HI⟩:=hrel
   by_cases hlt:kk<l0.length
   ·have hlti:(kk:Int)<(l0.length:Int):=by omega
    have hltd:decide ((kk:Int)<(l0.length:Int))=true:=decide_eq_true hlti
    have q0:(0:Int)≤(kk:Int):=by omega
    obtain ⟨ad,A1,c1,e1,hx,hl1,hi1⟩:=at_L2 HR.out (kk:Int) q0 hlti
    cases e1
    replace hx:=(HI.out.1.cell (World.block_lt_of_cell? w _ hx)).trans hx
    simp only [Int.toNat_natCast] at hx
    have HI1:=aK hi1
    have HLX:=aK (HL.out.2 (rd_L2 l0 (kk:Int)) (by simp [rd_L2,List.getD_eq_getElem?_getD,List.getElem?_eq_getElem hlt]))
    have HST:=aK (show rowsA l0 (kk+1)=rowEds (rowsA l0 kk) (rd_L2 l0 (kk:Int)) (rd_L2 l0 (kk:Int)).length from rfl)
    have HW:=aK (show wrap64 ((kk:Int)+1)=((kk+1:Nat):Int) by have:=HL.out.1;unfold wrap64;omega)
    generalize rd_L2 l0 (kk:Int)=p at *
    have HN:=aK (show kk<l0.length∧l0.length≤gk+kk from ⟨hlt,hgg⟩)
    clear hi1 hl1 hgg hkk hlt
    go_wp2_with fail
    refine (Edges_calls 40 #[.pointer (some ⟨W1.heap.size,0,none⟩)] (RowsI w p (rowsA l0 kk) W1.heap.size) (enters_own Tryz.func40 (by kernel_rfl) rfl) A1 c1 p w _
     (fun i W hi ⟨k0,k1,k2,k3⟩=>(rows1_calls (rd_T47 p (i:Int)) (nxt p i) _ _ W1.heap.size W k2).mono (fun e w' ⟨he,hg,hk⟩=>⟨he,k0.grown hg k0.size (fun k hk'=>by injection hk' with hk';omega),blk_grown k1 hg (by simp;omega),hk,k3⟩))
     (fun i W h=>h.1) (fun i W o h=>⟨below_alloc h.1 o,blk_alloc h.2.1 o,blk_alloc h.2.2.1 o,h.2.2.2⟩) (fun i W n h=>⟨pw_below_drewN h.1 n,blk_drewN h.2.1 n,blk_drewN h.2.2.1 n,h.2.2.2⟩)
     HI.out HI1.out HLX.out).mono ?_
    rintro e W6 ⟨rfl,HI6⟩
    have HI7:=aK (show RowsI w [] (rowsA l0 (kk+1)) W1.heap.size 0 W6 by rw [HST.out];exact HI6)
    clear HI6 HI HST
    go_wp2
    go_roundg (l0.length-(kk+1))
    case measure=>have:=HN.out;omega
    case rel=>exact ⟨kk+1,by have:=HN.out;omega,by omega,by first|rfl|exact congrArg (Value.int .i64) HW.out,HI7⟩
   ·have hltd:decide ((kk:Int)<(l0.length:Int))=false:=decide_eq_false (by omega)
    obtain rfl:kk=l0.length:=by omega
    clear hkk hgg hlt
    obtain ⟨k0,k1,k2,k3⟩:=HI.out
    have hres:=HRES.out
    simp only [rowEds] at k2
    generalize rowsA l0 l0.length=s at *
    obtain ⟨s1,s2⟩:=s
    simp only at k2 hres
    have a1:=(blk_cell k2 1).trans rfl
    have a0:=(blk_cell k2 0).trans rfl
    have b0:=(blk_cell k1 0).trans rfl
    have f0:=blk_frozen k1 0
    have K0:=aK k0
    have K1:=aK k1
    by_cases hs:s2<0
    ·rw [if_pos hs] at hres
     have hsd:decide (s2<0)=true:=decide_eq_true hs
     simp only [Option.some.injEq,Prod.mk.injEq] at hres
     obtain ⟨rfl,rfl,rfl⟩:=hres
     have X2:=blk_set k1 0 (.int .i64 0)
     have b1:=(blk_cell X2 1).trans rfl
     have f1:=blk_frozen X2 1
     have X3:=aK (blk_set X2 1 (.int .i64 0))
     clear k0 k1 k2 k3 X2 hs
     go_wp2
     refine bodyPost_ret (results_ct rfl _ _ w.heap.size 23 #[.int .i64 0,.int .i64 0] (0,0) _ rfl X3.out Tryz.underlying23 rfl (by kernel_rfl)) rfl ?_
     exact ⟨rfl,below_set (below_set K0.out (Nat.le_refl _)) (Nat.le_refl _)⟩
    ·rw [if_neg hs] at hres
     have hsd:decide (s2<0)=false:=decide_eq_false hs
     simp only [Option.some.injEq,Prod.mk.injEq] at hres
     obtain ⟨rfl,rfl,rfl⟩:=hres
     have X2:=blk_set k1 0 (.int .i64 s1)
     have b1:=(blk_cell X2 1).trans rfl
     have f1:=blk_frozen X2 1
     have X3:=aK (blk_set X2 1 (.int .i64 s2))
     clear k0 k1 k2 k3 X2 hs
     go_wp2
     refine bodyPost_ret (results_ct rfl _ _ w.heap.size 23 #[.int .i64 s1,.int .i64 s2] (0,0) _ rfl X3.out Tryz.underlying23 rfl (by kernel_rfl)) rfl ?_
     exact ⟨rfl,below_set (below_set K0.out (Nat.le_refl _)) (Nat.le_refl _)⟩
end Go.Proofs.YtckjlckhjcbddaaGreat.PG3
