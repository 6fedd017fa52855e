import Derived.Test.YtckjlckhjcbddaaGreatPG3x0
import Derived.Test.YtckjlckhjcbddaaGreatPG3x12
import Derived.Test.YtckjlckhjcbddaaGreatPG3x13
import Derived.Test.YtckjlckhjcbddaaGreatPG3x14
import Derived.Test.YtckjlckhjcbddaaGreatPG3x15
import Derived.Test.YtckjlckhjcbddaaGreatPG3x17
import Derived.Test.YtckjlckhjcbddaaGreatPG3x21
import Derived.Test.YtckjlckhjcbddaaGreatPG3x36
namespace Go.Proofs.YtckjlckhjcbddaaGreat.PG3
open Go.RowKit Go.Proofs.YtckjlckhjcbddaaGreatW.PrintWords Go.Proofs.YtckjlckhjcbddaaGreatW.PrintLast Go.Proofs.YtckjlckhjcbddaaGreatW.PrintMore
attribute [local go_sem] max2_int min2_int max_two min_two max_three min_three max_four min_four
set_option linter.unusedVariables false
set_option linter.unusedSimpArgs false
mutual
def fleuronlaw19_ScanSamples.j0 : Nat → List (List (S47)) → List (S47) → List (S47) → Bool → Option (Bool)
 | 0,_,_,_,_=>none
 | k+1,x0,x1,x2,x34=>if x34=true then ((fleuronlaw19_awake.f).bind fun t511=>(some t511)) else (fleuronlaw19_ScanSamples.l0 k x0 x1 x2 0)
def fleuronlaw19_ScanSamples.l0 : Nat → List (List (S47)) → List (S47) → List (S47) → Int → Option (Bool)
 | 0,_,_,_,_=>none
 | k+1,x0,x1,x2,x36=>if x36<4 then ((some (([false,true]:List Bool):List Bool)).bind fun y513=>(fleuronlaw19_ScanSamples.l1 k x0 x1 x2 x36 x36 y513 (y513.length:Int) 0)) else ((fleuronlaw19_awake.f).bind fun t512=>(some t512))
def fleuronlaw19_ScanSamples.l1 : Nat → List (List (S47)) → List (S47) → List (S47) → Int → Int → List Bool → Int → Int → Option (Bool)
 | 0,_,_,_,_,_,_,_,_=>none
 | k+1,x0,x1,x2,x7,x36,x39,x40,x41=>if x41<x40 then (if 0≤x41 then (if x41<(x39.length:Int) then ((scan_Row.f k x0 (rdOf false x39 x41) 12 x7).bind fun bt517=>(fleuronlaw19_ScanSamples.l2 k x0 x1 x2 x7 (rdOf false x39 x41) bt517.1 bt517.2 x36 x39 x40 x41 0)) else (none)) else (none)) else ((scan_Pen.f k x1 x2 12 x7).bind fun bt526=>(fleuronlaw19_ScanSamples.l3 k x0 x1 x2 x7 bt526.1 bt526.2 x36 0))
def fleuronlaw19_ScanSamples.l2 : Nat → List (List (S47)) → List (S47) → List (S47) → Int → Bool → List (S23) → Int → Int → List Bool → Int → Int → Int → Option (Bool)
 | 0,_,_,_,_,_,_,_,_,_,_,_,_=>none
 | k+1,x0,x1,x2,x7,x9,x10,x11,x36,x39,x40,x41,x52=>if x52<12 then ((fleuronref19_Sample.f x52 x7).bind fun bt521=>((wind_Inside.f k x0 x9 bt521.1 bt521.2).bind fun bt523=>(if bt523.2=x11 then (if x11=0 then ((fleuronlaw19_in.f k x10 x52).bind fun t525=>(if (t525 != bt523.1)=true then (some false) else (fleuronlaw19_ScanSamples.l2 k x0 x1 x2 x7 x9 x10 x11 x36 x39 x40 x41 (wrap64 (x52+1))))) else (fleuronlaw19_ScanSamples.l2 k x0 x1 x2 x7 x9 x10 x11 x36 x39 x40 x41 (wrap64 (x52+1)))) else (some false)))) else (fleuronlaw19_ScanSamples.l1 k x0 x1 x2 x7 x36 x39 x40 (wrap64 (x41+1)))
def fleuronlaw19_ScanSamples.l3 : Nat → List (List (S47)) → List (S47) → List (S47) → Int → List (S23) → Int → Int → Int → Option (Bool)
 | 0,_,_,_,_,_,_,_,_=>none
 | k+1,x0,x1,x2,x7,x15,x16,x36,x87=>if x87<12 then ((fleuronref19_Sample.f x87 x7).bind fun bt530=>((pen_Along.f x1 x2 bt530.1 bt530.2).bind fun bt532=>(if bt532.2=x16 then (if x16=0 then ((fleuronlaw19_in.f k x15 x87).bind fun t534=>(if (t534 != bt532.1)=true then (some false) else (fleuronlaw19_ScanSamples.l3 k x0 x1 x2 x7 x15 x16 x36 (wrap64 (x87+1))))) else (fleuronlaw19_ScanSamples.l3 k x0 x1 x2 x7 x15 x16 x36 (wrap64 (x87+1)))) else (some false)))) else (fleuronlaw19_ScanSamples.l0 k x0 x1 x2 (wrap64 (x36+1)))
end
def fleuronlaw19_ScanSamples.f (k:Nat) (l0:List (List (S47))) (l1:List (S47)) (l2:List (S47)):Option (Bool):=(fleuronlaw19_few.f k 200 l0).bind fun t502=>(if t502=true then ((fleuronlaw19_few.f k 70 (([l1]:List (List (S47))))).bind fun t506=>(if t506=true then ((fleuronlaw19_few.f k 20 (([l2]:List (List (S47))))).bind fun t510=>(fleuronlaw19_ScanSamples.j0 k l0 l1 l2 (!t510))) else (fleuronlaw19_ScanSamples.j0 k l0 l1 l2 true))) else (fleuronlaw19_ScanSamples.j0 k l0 l1 l2 true))
theorem fleuronlaw19_ScanSamples.mono_l : ∀ k, (∀ y0 y1 y2 y3, LeO (fleuronlaw19_ScanSamples.j0 k y0 y1 y2 y3) (fleuronlaw19_ScanSamples.j0 (k + 1) y0 y1 y2 y3)) ∧ (∀ y0 y1 y2 y3, LeO (fleuronlaw19_ScanSamples.l0 k y0 y1 y2 y3) (fleuronlaw19_ScanSamples.l0 (k + 1) y0 y1 y2 y3)) ∧ (∀ y0 y1 y2 y3 y4 y5 y6 y7, LeO (fleuronlaw19_ScanSamples.l1 k y0 y1 y2 y3 y4 y5 y6 y7) (fleuronlaw19_ScanSamples.l1 (k + 1) y0 y1 y2 y3 y4 y5 y6 y7)) ∧ (∀ y0 y1 y2 y3 y4 y5 y6 y7 y8 y9 y10 y11, LeO (fleuronlaw19_ScanSamples.l2 k y0 y1 y2 y3 y4 y5 y6 y7 y8 y9 y10 y11) (fleuronlaw19_ScanSamples.l2 (k + 1) y0 y1 y2 y3 y4 y5 y6 y7 y8 y9 y10 y11)) ∧ (∀ y0 y1 y2 y3 y4 y5 y6 y7, LeO (fleuronlaw19_ScanSamples.l3 k y0 y1 y2 y3 y4 y5 y6 y7) (fleuronlaw19_ScanSamples.l3 (k + 1) y0 y1 y2 y3 y4 y5 y6 y7))
 | 0=>⟨fun _ _ _ _ r h=>by simp [fleuronlaw19_ScanSamples.j0] at h,fun _ _ _ _ r h=>by simp [fleuronlaw19_ScanSamples.l0] at h,fun _ _ _ _ _ _ _ _ r h=>by simp [fleuronlaw19_ScanSamples.l1] at h,fun _ _ _ _ _ _ _ _ _ _ _ _ r h=>by simp [fleuronlaw19_ScanSamples.l2] at h,fun _ _ _ _ _ _ _ _ r h=>by simp [fleuronlaw19_ScanSamples.l3] at h⟩
 | k+1=>by
  obtain ⟨ih0,ih1,ih2,ih3,ih4⟩:=fleuronlaw19_ScanSamples.mono_l k
  refine ⟨?_,?_,?_,?_,?_⟩
  ·intro y0 y1 y2 y3
   unfold fleuronlaw19_ScanSamples.j0
   repeat' first
   | (with_reducible exact ih0 _ _ _ _)
   | (with_reducible exact ih1 _ _ _ _)
   | (with_reducible exact ih2 _ _ _ _ _ _ _ _)
   | (with_reducible exact ih3 _ _ _ _ _ _ _ _ _ _ _ _)
   | (with_reducible exact ih4 _ _ _ _ _ _ _ _)
   | (with_reducible exact fleuronlaw19_few.mono _ _ _)
   | (with_reducible exact fleuronlaw19_in.mono _ _ _)
   | (with_reducible exact scan_Pen.mono _ _ _ _ _)
   | (with_reducible exact scan_Row.mono _ _ _ _ _)
   | (with_reducible exact wind_Inside.mono _ _ _ _ _)
   | (with_reducible exact LeO.refl _)
   | (with_reducible exact LeO.none _)
   | (with_reducible refine LeO.ite ?_ ?_)
   | (with_reducible refine LeO.bind ?_ (fun _=>?_))
   | exact ih0 _ _ _ _
   | exact ih1 _ _ _ _
   | exact ih2 _ _ _ _ _ _ _ _
   | exact ih3 _ _ _ _ _ _ _ _ _ _ _ _
   | exact ih4 _ _ _ _ _ _ _ _
   | exact fleuronlaw19_few.mono _ _ _
   | exact fleuronlaw19_in.mono _ _ _
   | exact scan_Pen.mono _ _ _ _ _
   | exact scan_Row.mono _ _ _ _ _
   | exact wind_Inside.mono _ _ _ _ _
   | exact LeO.none _
   | refine LeO.ite ?_ ?_
   | refine LeO.bind ?_ (fun _=>?_)
  ·intro y0 y1 y2 y3
   unfold fleuronlaw19_ScanSamples.l0
   repeat' first
   | (with_reducible exact ih0 _ _ _ _)
   | (with_reducible exact ih1 _ _ _ _)
   | (with_reducible exact ih2 _ _ _ _ _ _ _ _)
   | (with_reducible exact ih3 _ _ _ _ _ _ _ _ _ _ _ _)
   | (with_reducible exact ih4 _ _ _ _ _ _ _ _)
   | (with_reducible exact fleuronlaw19_few.mono _ _ _)
   | (with_reducible exact fleuronlaw19_in.mono _ _ _)
   | (with_reducible exact scan_Pen.mono _ _ _ _ _)
   | (with_reducible exact scan_Row.mono _ _ _ _ _)
   | (with_reducible exact wind_Inside.mono _ _ _ _ _)
   | (with_reducible exact LeO.refl _)
   | (with_reducible exact LeO.none _)
   | (with_reducible refine LeO.ite ?_ ?_)
   | (with_reducible refine LeO.bind ?_ (fun _=>?_))
   | exact ih0 _ _ _ _
   | exact ih1 _ _ _ _
   | exact ih2 _ _ _ _ _ _ _ _
   | exact ih3 _ _ _ _ _ _ _ _ _ _ _ _
   | exact ih4 _ _ _ _ _ _ _ _
   | exact fleuronlaw19_few.mono _ _ _
   | exact fleuronlaw19_in.mono _ _ _
   | exact scan_Pen.mono _ _ _ _ _
   | exact scan_Row.mono _ _ _ _ _
   | exact wind_Inside.mono _ _ _ _ _
   | exact LeO.none _
   | refine LeO.ite ?_ ?_
   | refine LeO.bind ?_ (fun _=>?_)
  ·intro y0 y1 y2 y3 y4 y5 y6 y7
   unfold fleuronlaw19_ScanSamples.l1
   repeat' first
   | (with_reducible exact ih0 _ _ _ _)
   | (with_reducible exact ih1 _ _ _ _)
   | (with_reducible exact ih2 _ _ _ _ _ _ _ _)
   | (with_reducible exact ih3 _ _ _ _ _ _ _ _ _ _ _ _)
   | (with_reducible exact ih4 _ _ _ _ _ _ _ _)
   | (with_reducible exact fleuronlaw19_few.mono _ _ _)
   | (with_reducible exact fleuronlaw19_in.mono _ _ _)
   | (with_reducible exact scan_Pen.mono _ _ _ _ _)
   | (with_reducible exact scan_Row.mono _ _ _ _ _)
   | (with_reducible exact wind_Inside.mono _ _ _ _ _)
   | (with_reducible exact LeO.refl _)
   | (with_reducible exact LeO.none _)
   | (with_reducible refine LeO.ite ?_ ?_)
   | (with_reducible refine LeO.bind ?_ (fun _=>?_))
   | exact ih0 _ _ _ _
   | exact ih1 _ _ _ _
   | exact ih2 _ _ _ _ _ _ _ _
   | exact ih3 _ _ _ _ _ _ _ _ _ _ _ _
   | exact ih4 _ _ _ _ _ _ _ _
   | exact fleuronlaw19_few.mono _ _ _
   | exact fleuronlaw19_in.mono _ _ _
   | exact scan_Pen.mono _ _ _ _ _
   | exact scan_Row.mono _ _ _ _ _
   | exact wind_Inside.mono _ _ _ _ _
   | exact LeO.none _
   | refine LeO.ite ?_ ?_
   | refine LeO.bind ?_ (fun _=>?_)
  ·intro y0 y1 y2 y3 y4 y5 y6 y7 y8 y9 y10 y11
   unfold fleuronlaw19_ScanSamples.l2
   repeat' first
   | (with_reducible exact ih0 _ _ _ _)
   | (with_reducible exact ih1 _ _ _ _)
   | (with_reducible exact ih2 _ _ _ _ _ _ _ _)
   | (with_reducible exact ih3 _ _ _ _ _ _ _ _ _ _ _ _)
   | (with_reducible exact ih4 _ _ _ _ _ _ _ _)
   | (with_reducible exact fleuronlaw19_few.mono _ _ _)
   | (with_reducible exact fleuronlaw19_in.mono _ _ _)
   | (with_reducible exact scan_Pen.mono _ _ _ _ _)
   | (with_reducible exact scan_Row.mono _ _ _ _ _)
   | (with_reducible exact wind_Inside.mono _ _ _ _ _)
   | (with_reducible exact LeO.refl _)
   | (with_reducible exact LeO.none _)
   | (with_reducible refine LeO.ite ?_ ?_)
   | (with_reducible refine LeO.bind ?_ (fun _=>?_))
   | exact ih0 _ _ _ _
   | exact ih1 _ _ _ _
   | exact ih2 _ _ _ _ _ _ _ _
   | exact ih3 _ _ _ _ _ _ _ _ _ _ _ _
   | exact ih4 _ _ _ _ _ _ _ _
   | exact fleuronlaw19_few.mono _ _ _
   | exact fleuronlaw19_in.mono _ _ _
   | exact scan_Pen.mono _ _ _ _ _
   | exact scan_Row.mono _ _ _ _ _
   | exact wind_Inside.mono _ _ _ _ _
   | exact LeO.none _
   | refine LeO.ite ?_ ?_
   | refine LeO.bind ?_ (fun _=>?_)
  ·intro y0 y1 y2 y3 y4 y5 y6 y7
   unfold fleuronlaw19_ScanSamples.l3
   repeat' first
   | (with_reducible exact ih0 _ _ _ _)
   | (with_reducible exact ih1 _ _ _ _)
   | (with_reducible exact ih2 _ _ _ _ _ _ _ _)
   | (with_reducible exact ih3 _ _ _ _ _ _ _ _ _ _ _ _)
   | (with_reducible exact ih4 _ _ _ _ _ _ _ _)
   | (with_reducible exact fleuronlaw19_few.mono _ _ _)
   | (with_reducible exact fleuronlaw19_in.mono _ _ _)
   | (with_reducible exact scan_Pen.mono _ _ _ _ _)
   | (with_reducible exact scan_Row.mono _ _ _ _ _)
   | (with_reducible exact wind_Inside.mono _ _ _ _ _)
   | (with_reducible exact LeO.refl _)
   | (with_reducible exact LeO.none _)
   | (with_reducible refine LeO.ite ?_ ?_)
   | (with_reducible refine LeO.bind ?_ (fun _=>?_))
   | exact ih0 _ _ _ _
   | exact ih1 _ _ _ _
   | exact ih2 _ _ _ _ _ _ _ _
   | exact ih3 _ _ _ _ _ _ _ _ _ _ _ _
   | exact ih4 _ _ _ _ _ _ _ _
   | exact fleuronlaw19_few.mono _ _ _
   | exact fleuronlaw19_in.mono _ _ _
   | exact scan_Pen.mono _ _ _ _ _
   | exact scan_Row.mono _ _ _ _ _
   | exact wind_Inside.mono _ _ _ _ _
   | exact LeO.none _
   | refine LeO.ite ?_ ?_
   | refine LeO.bind ?_ (fun _=>?_)
theorem fleuronlaw19_ScanSamples.mono : ∀ a0 a1 a2 k,LeO (fleuronlaw19_ScanSamples.f k a0 a1 a2) (fleuronlaw19_ScanSamples.f (k+1) a0 a1 a2):=by
 intro a0 a1 a2 k
 obtain ⟨ih0,ih1,ih2,ih3,ih4⟩:=fleuronlaw19_ScanSamples.mono_l k
 unfold fleuronlaw19_ScanSamples.f
 repeat' first
   | (with_reducible exact ih0 _ _ _ _)
   | (with_reducible exact ih1 _ _ _ _)
   | (with_reducible exact ih2 _ _ _ _ _ _ _ _)
   | (with_reducible exact ih3 _ _ _ _ _ _ _ _ _ _ _ _)
   | (with_reducible exact ih4 _ _ _ _ _ _ _ _)
   | (with_reducible exact fleuronlaw19_few.mono _ _ _)
   | (with_reducible exact fleuronlaw19_in.mono _ _ _)
   | (with_reducible exact scan_Pen.mono _ _ _ _ _)
   | (with_reducible exact scan_Row.mono _ _ _ _ _)
   | (with_reducible exact wind_Inside.mono _ _ _ _ _)
   | (with_reducible exact LeO.refl _)
   | (with_reducible exact LeO.none _)
   | (with_reducible refine LeO.ite ?_ ?_)
   | (with_reducible refine LeO.bind ?_ (fun _=>?_))
   | exact ih0 _ _ _ _
   | exact ih1 _ _ _ _
   | exact ih2 _ _ _ _ _ _ _ _
   | exact ih3 _ _ _ _ _ _ _ _ _ _ _ _
   | exact ih4 _ _ _ _ _ _ _ _
   | exact fleuronlaw19_few.mono _ _ _
   | exact fleuronlaw19_in.mono _ _ _
   | exact scan_Pen.mono _ _ _ _ _
   | exact scan_Row.mono _ _ _ _ _
   | exact wind_Inside.mono _ _ _ _ _
   | exact LeO.none _
   | refine LeO.ite ?_ ?_
   | refine LeO.bind ?_ (fun _=>?_)
theorem few1 (k:Nat) (M:Int) {W:World} {A:Option Addr} {c:Nat} {l:List S47} {q:Nat} (r:Bool) (h:Kd.C k47 W A l.length l) (hc:l.length≤c) (e_:TypeId) (hq:q=W.heap.size) (hf:fleuronlaw19_few.f k M [l]=some r):Calls Tryz.prog 8 #[.int .i64 M,.slice (some ⟨q,0,none⟩) 1 1] (W.alloc (.cells #[.slice A l.length c] e_)) fun e w'=>e = .returned (.bool r)∧Drawn0 (W.alloc (.cells #[.slice A l.length c] e_)) w':=by subst hq;exact fleuronlaw19_few.calls k M _ 1 [l] r _ (oneP_row h hc e_) (by simp) hf
set_option maxHeartbeats 8000000 in
set_option maxRecDepth 100000 in
theorem fleuronlaw19_ScanSamples.calls (k : Nat) (A0 : Option Addr) (c0 : Nat) (l0 : List (List (S47))) (P1_ : Nat → Prop) (A1 : Option Addr) (c1 : Nat) (l1 : List (S47)) (P2_ : Nat → Prop) (A2 : Option Addr) (c2 : Nat) (l2 : List (S47)) (r : Bool) (w : World) (hr0 : Kd.C (Kd.slice 47 k47) w A0 l0.length l0) (hc0 : l0.length ≤ c0) (hs1 : Kd.V k47 47 w w.heap.size (fun k_ => P1_ k_) (.slice A1 l1.length c1) l1) (hs2 : Kd.V k47 47 w w.heap.size (fun k_ => P2_ k_) (.slice A2 l2.length c2) l2) (h : fleuronlaw19_ScanSamples.f k l0 l1 l2 = some r) :
  Calls Tryz.prog 7 #[.slice A0 l0.length c0,.slice A1 l1.length c1,.slice A2 l2.length c2] w fun e w'=>e = .returned (.bool r)∧Below w.heap.size w w':=by
 have HR0:=aK hr0
 have HC0:=aK hc0
 clear hr0 hc0
 have HO1:=aK (show Kd.V k47 47 w w.heap.size (fun k_=>((P1_ k_∨P2_ k_)∨w.heap.size≤k_)) (.slice A1 l1.length c1) l1 from Kd.V_mono hs1 (fun k_ hk=>.inl (.inl hk)))
 have HO2:=aK (show Kd.V k47 47 w w.heap.size (fun k_=>((P1_ k_∨P2_ k_)∨w.heap.size≤k_)) (.slice A2 l2.length c2) l2 from Kd.V_mono hs2 (fun k_ hk=>.inl (.inr hk)))
 have HB:=aK (Below.refl w.heap.size w)
 have H:((fleuronlaw19_few.f k 200 l0).bind fun t502=>(if t502=true then ((fleuronlaw19_few.f k 70 (([l1]:List (List (S47))))).bind fun t506=>(if t506=true then ((fleuronlaw19_few.f k 20 (([l2]:List (List (S47))))).bind fun t510=>(fleuronlaw19_ScanSamples.j0 k l0 l1 l2 (!t510))) else (fleuronlaw19_ScanSamples.j0 k l0 l1 l2 true))) else (fleuronlaw19_ScanSamples.j0 k l0 l1 l2 true)))=some r:=h
 clear h
 have HC4:=aK H
 clear H
 go_enter Tryz.func7,Tryz.ntmps7
 go_upto_region 1 with (fail)
 go_cut [34] (fun v34 wc=>∃ (kq:Nat) (x34_3:Bool),v34 = .bool x34_3∧Aside0 (fleuronlaw19_ScanSamples.j0 kq l0 l1 l2 x34_3=some r)∧Aside0 (kq≤k)∧Aside0 (Kd.V k47 47 wc w.heap.size (fun k_=>((P1_ k_∨P2_ k_)∨w.heap.size≤k_)) (.slice A1 l1.length c1) l1)∧Aside0 (Kd.V k47 47 wc w.heap.size (fun k_=>((P1_ k_∨P2_ k_)∨w.heap.size≤k_)) (.slice A2 l2.length c2) l2)∧Aside0 (Below w.heap.size w wc))
 case first =>
  have H:=HC4.out
  clear HC4
  replace H:=Option.bind_eq_some_iff.mp H
  obtain ⟨t502,A50,H⟩:=H
  replace H:(if t502=true then ((fleuronlaw19_few.f k 70 (([l1]:List (List (S47))))).bind fun t506=>(if t506=true then ((fleuronlaw19_few.f k 20 (([l2]:List (List (S47))))).bind fun t510=>(fleuronlaw19_ScanSamples.j0 k l0 l1 l2 (!t510))) else (fleuronlaw19_ScanSamples.j0 k l0 l1 l2 true))) else (fleuronlaw19_ScanSamples.j0 k l0 l1 l2 true))=some r:=H
  have A5:=aK A50
  clear A50
  by_cases c6:t502=true
  ·subst c6
   have H1:((fleuronlaw19_few.f k 70 (([l1]:List (List (S47))))).bind fun t506=>(if t506=true then ((fleuronlaw19_few.f k 20 (([l2]:List (List (S47))))).bind fun t510=>(fleuronlaw19_ScanSamples.j0 k l0 l1 l2 (!t510))) else (fleuronlaw19_ScanSamples.j0 k l0 l1 l2 true)))=some r:=by rw [if_pos rfl] at H;exact H
   clear H
   have H:=H1
   clear H1
   obtain ⟨y503,hy503⟩ : ∃ y_:List (List (S47)),y_=(([l1]:List (List (S47)))):=⟨_,rfl⟩
   replace H:((fleuronlaw19_few.f k 70 y503).bind fun t506=>(if t506=true then ((fleuronlaw19_few.f k 20 (([l2]:List (List (S47))))).bind fun t510=>(fleuronlaw19_ScanSamples.j0 k l0 l1 l2 (!t510))) else (fleuronlaw19_ScanSamples.j0 k l0 l1 l2 true)))=some r:=by first|(rw [hy503];with_reducible exact H)|(have H2_:=(Option.bind_some _ _).symm.trans H;rw [hy503];with_reducible exact H2_)|(have H2_:=(Option.bind_some _ _).symm.trans H;with_reducible exact H2_)|with_reducible exact H|(rw [hy503];exact H)|exact H
   have Ny503:=aK hy503
   clear hy503
   replace H:=Option.bind_eq_some_iff.mp H
   obtain ⟨t506,A70,H⟩:=H
   replace H:(if t506=true then ((fleuronlaw19_few.f k 20 (([l2]:List (List (S47))))).bind fun t510=>(fleuronlaw19_ScanSamples.j0 k l0 l1 l2 (!t510))) else (fleuronlaw19_ScanSamples.j0 k l0 l1 l2 true))=some r:=H
   have A7:=aK A70
   clear A70
   by_cases c8:t506=true
   ·subst c8
    have H1:((fleuronlaw19_few.f k 20 (([l2]:List (List (S47))))).bind fun t510=>(fleuronlaw19_ScanSamples.j0 k l0 l1 l2 (!t510)))=some r:=by rw [if_pos rfl] at H;exact H
    clear H
    have H:=H1
    clear H1
    obtain ⟨y507,hy507⟩ : ∃ y_:List (List (S47)),y_=(([l2]:List (List (S47)))):=⟨_,rfl⟩
    replace H:((fleuronlaw19_few.f k 20 y507).bind fun t510=>(fleuronlaw19_ScanSamples.j0 k l0 l1 l2 (!t510)))=some r:=by first|(rw [hy507];with_reducible exact H)|(have H2_:=(Option.bind_some _ _).symm.trans H;rw [hy507];with_reducible exact H2_)|(have H2_:=(Option.bind_some _ _).symm.trans H;with_reducible exact H2_)|with_reducible exact H|(rw [hy507];exact H)|exact H
    have Ny507:=aK hy507
    clear hy507
    replace H:=Option.bind_eq_some_iff.mp H
    obtain ⟨t510,A90,H⟩:=H
    replace H:(fleuronlaw19_ScanSamples.j0 k l0 l1 l2 (!t510))=some r:=H
    have A9:=aK A90
    clear A90
    have H':=aK H
    clear H
    go_wp2_with (first|((with_reducible refine gate_callee (f:=8) rfl ?_);refine goesL_ (some 21) rfl rfl Tryz.func8 (by kernel_rfl) rfl #[.int .i64 200,.slice A0 l0.length c0] rfl (by (try simp only [List.map_toArray,List.map_cons,List.map_nil]);first|done|rfl|(simp only [List.length_drop,List.length_take];rfl)) ?_;(with_reducible refine (fleuronlaw19_few.calls k 200 _ _ l0 true _ ?side1 ?side2 A5.out).mono ?_);(case side1=>repeat (first|exact (Kd.C_below HR0.out HB.out)|(with_reducible refine Kd.C_alloc ?_ _)|(with_reducible refine Kd.C_drewN ?_ _)|(with_reducible refine Kd.C_drew ?_)));(case side2=>exact HC0.out);rintro e w' ⟨rfl,⟨nd,rfl⟩⟩;refine ⟨_,rfl,?_⟩)|(go_at_call 8;(with_reducible refine (few1 k 70 (A:=A1) (c:=c1) (l:=l1) true ?sa ?sb 34 ?sc ?sd).mono ?_);(case sa=>repeat (first|exact (Kd.V_reads' HO1.out).2.2|(with_reducible refine Kd.C_alloc ?_ _)|(with_reducible refine Kd.C_drewN ?_ _)|(with_reducible refine Kd.C_drew ?_)));(case sb=>exact (Kd.V_reads' HO1.out).2.1);(case sc=>first|rfl|(go_simp;done)|(simp;done));(case sd=>rw [← Ny503.out];exact A7.out);rintro e w' ⟨rfl,⟨nd,rfl⟩⟩)|(go_at_call 8;(with_reducible refine (few1 k 20 (A:=A2) (c:=c2) (l:=l2) t510 ?sa ?sb 34 ?sc ?sd).mono ?_);(case sa=>repeat (first|exact (Kd.V_reads' HO2.out).2.2|(with_reducible refine Kd.C_alloc ?_ _)|(with_reducible refine Kd.C_drewN ?_ _)|(with_reducible refine Kd.C_drew ?_)));(case sb=>exact (Kd.V_reads' HO2.out).2.1);(case sc=>first|rfl|(go_simp;done)|(simp;done));(case sd=>rw [← Ny507.out];exact A9.out);rintro e w' ⟨rfl,⟨nd,rfl⟩⟩))
    go_meet
    case rel=>exact ⟨_,(!t510),(by first|rfl|(simp;done)|(simp [*];done)),H',⟨by first|omega|exact Nat.le_refl _⟩,⟨by (with_reducible repeat (first|apply Kd.V_alloc|apply Kd.V_drewN|apply Kd.V_drew));exact Kd.V_mono HO1.out (fun _ hk=>by first|exact hk|exact hk.1|exact hk.1.1)⟩,⟨by (with_reducible repeat (first|apply Kd.V_alloc|apply Kd.V_drewN|apply Kd.V_drew));exact Kd.V_mono HO2.out (fun _ hk=>by first|exact hk|exact hk.1|exact hk.1.1)⟩,⟨by repeat (first|(with_reducible first|exact HB.out|apply below_alloc|apply pw_below_drewN|apply below_drew1)|exact HB.out)⟩⟩
   ·replace c8:=Bool.eq_false_iff.mpr c8
    subst c8
    have H1:(fleuronlaw19_ScanSamples.j0 k l0 l1 l2 true)=some r:=by rw [if_neg (show ¬ (false=true) by decide)] at H;exact H
    clear H
    have H:=H1
    clear H1
    have H':=aK H
    clear H
    go_wp2_with (first|((with_reducible refine gate_callee (f:=8) rfl ?_);refine goesL_ (some 21) rfl rfl Tryz.func8 (by kernel_rfl) rfl #[.int .i64 200,.slice A0 l0.length c0] rfl (by (try simp only [List.map_toArray,List.map_cons,List.map_nil]);first|done|rfl|(simp only [List.length_drop,List.length_take];rfl)) ?_;(with_reducible refine (fleuronlaw19_few.calls k 200 _ _ l0 true _ ?side1 ?side2 A5.out).mono ?_);(case side1=>repeat (first|exact (Kd.C_below HR0.out HB.out)|(with_reducible refine Kd.C_alloc ?_ _)|(with_reducible refine Kd.C_drewN ?_ _)|(with_reducible refine Kd.C_drew ?_)));(case side2=>exact HC0.out);rintro e w' ⟨rfl,⟨nd,rfl⟩⟩;refine ⟨_,rfl,?_⟩)|(go_at_call 8;(with_reducible refine (few1 k 70 (A:=A1) (c:=c1) (l:=l1) false ?sa ?sb 34 ?sc ?sd).mono ?_);(case sa=>repeat (first|exact (Kd.V_reads' HO1.out).2.2|(with_reducible refine Kd.C_alloc ?_ _)|(with_reducible refine Kd.C_drewN ?_ _)|(with_reducible refine Kd.C_drew ?_)));(case sb=>exact (Kd.V_reads' HO1.out).2.1);(case sc=>first|rfl|(go_simp;done)|(simp;done));(case sd=>rw [← Ny503.out];exact A7.out);rintro e w' ⟨rfl,⟨nd,rfl⟩⟩))
    go_meet
    case rel=>exact ⟨_,(true),(by first|rfl|(simp;done)|(simp [*];done)),H',⟨by first|omega|exact Nat.le_refl _⟩,⟨by (with_reducible repeat (first|apply Kd.V_alloc|apply Kd.V_drewN|apply Kd.V_drew));exact Kd.V_mono HO1.out (fun _ hk=>by first|exact hk|exact hk.1|exact hk.1.1)⟩,⟨by (with_reducible repeat (first|apply Kd.V_alloc|apply Kd.V_drewN|apply Kd.V_drew));exact Kd.V_mono HO2.out (fun _ hk=>by first|exact hk|exact hk.1|exact hk.1.1)⟩,⟨by repeat (first|(with_reducible first|exact HB.out|apply below_alloc|apply pw_below_drewN|apply below_drew1)|exact HB.out)⟩⟩
  ·replace c6:=Bool.eq_false_iff.mpr c6
   subst c6
   have H1:(fleuronlaw19_ScanSamples.j0 k l0 l1 l2 true)=some r:=by rw [if_neg (show ¬ (false=true) by decide)] at H;exact H
   clear H
   have H:=H1
   clear H1
   have H':=aK H
   clear H
   go_wp2_with ((with_reducible refine gate_callee (f:=8) rfl ?_);refine goesL_ (some 21) rfl rfl Tryz.func8 (by kernel_rfl) rfl #[.int .i64 200,.slice A0 l0.length c0] rfl (by (try simp only [List.map_toArray,List.map_cons,List.map_nil]);first|done|rfl|(simp only [List.length_drop,List.length_take];rfl)) ?_;(with_reducible refine (fleuronlaw19_few.calls k 200 _ _ l0 false _ ?side1 ?side2 A5.out).mono ?_);(case side1=>repeat (first|exact (Kd.C_below HR0.out HB.out)|(with_reducible refine Kd.C_alloc ?_ _)|(with_reducible refine Kd.C_drewN ?_ _)|(with_reducible refine Kd.C_drew ?_)));(case side2=>exact HC0.out);rintro e w' ⟨rfl,⟨nd,rfl⟩⟩;refine ⟨_,rfl,?_⟩)
   go_meet
   case rel=>exact ⟨_,(true),(by first|rfl|(simp;done)|(simp [*];done)),H',⟨by first|omega|exact Nat.le_refl _⟩,⟨by (with_reducible repeat (first|apply Kd.V_alloc|apply Kd.V_drewN|apply Kd.V_drew));exact HO1.out⟩,⟨by (with_reducible repeat (first|apply Kd.V_alloc|apply Kd.V_drewN|apply Kd.V_drew));exact HO2.out⟩,⟨by repeat (first|(with_reducible first|exact HB.out|apply below_alloc|apply pw_below_drewN|apply below_drew1)|exact HB.out)⟩⟩
 case rest =>
  clear HC4
  try clear c1
  try clear c2
  try clear p2
  try clear c6
  try clear c7
  try clear c8
  obtain ⟨kq,x34_3,rfl,HA,HJ3,HO_1,HO_2,HB⟩:=hcut
  cases kq with
  | zero=>exact absurd HA.out (by simp [fleuronlaw19_ScanSamples.j0])
  | succ kj3 =>
   have H:=HA.out
   clear HA
   simp only [fleuronlaw19_ScanSamples.j0] at H
   by_cases c19:x34_3=true
   ·subst c19
    have H1:((fleuronlaw19_awake.f).bind fun t511=>(some t511))=some r:=by rw [if_pos rfl] at H;exact H
    clear H
    have H:=H1
    clear H1
    replace H:=Option.bind_eq_some_iff.mp H
    obtain ⟨t511,A200,H⟩:=H
    replace H:(some t511)=some r:=H
    have A20:=aK A200
    clear A200
    obtain rfl:=Option.some.inj H
    go_wp2_with ((with_reducible refine gate_callee (f:=9) rfl ?_);refine goesL_ (some 35) rfl rfl Tryz.func9 (by kernel_rfl) rfl #[] rfl (by (try simp only [List.map_toArray,List.map_cons,List.map_nil]);first|done|rfl|(simp only [List.length_drop,List.length_take];rfl)) ?_;(with_reducible refine (fleuronlaw19_awake.calls  t511 _ A20.out).mono ?_);rintro e w21 ⟨rfl,hb⟩;refine ⟨_,rfl,?_⟩;have n0_:=aK (Kd.V_below (by (with_reducible repeat (first|apply Kd.V_alloc|apply Kd.V_drewN|apply Kd.V_drew));exact HO_1.out) hb);have n1_:=aK (Kd.V_below (by (with_reducible repeat (first|apply Kd.V_alloc|apply Kd.V_drewN|apply Kd.V_drew));exact HO_2.out) hb);have n2_:=aK (below_step (by repeat (first|(with_reducible first|exact HB.out|apply below_alloc|apply pw_below_drewN|apply below_drew1)|exact HB.out)) hb);clear HO_1;clear HO_2;clear HB;have HO_1:=n0_;have HO_2:=n1_;have HB:=n2_;clear n0_ n1_ n2_;(try clear hb);(try clear hb2);(try clear hk);(try clear hi))
    go_ret
    exact ⟨by first|rfl|(simp [errW_none,errW_some] <;> rfl)|(simp [*,errW_none,errW_some] <;> rfl),by repeat (first|(with_reducible first|exact HB.out|apply below_alloc|apply pw_below_drewN|apply below_drew1)|exact HB.out)⟩
   ·replace c19:=Bool.eq_false_iff.mpr c19
    subst c19
    have H1:(fleuronlaw19_ScanSamples.l0 kj3 l0 l1 l2 0)=some r:=by rw [if_neg (show ¬ (false=true) by decide)] at H;exact H
    clear H
    have H:=H1
    clear H1
    have H':=aK H
    clear H
    go_wp2
    go_loopg [36] kj3 (fun kq v36 w'=>∃ (x36_2:Int),v36 = .int .i64 x36_2∧Aside0 (fleuronlaw19_ScanSamples.l0 kq l0 l1 l2 x36_2=some r)∧Aside0 (kq≤kj3)∧Aside0 (Kd.V k47 47 w' w.heap.size (fun k_=>((P1_ k_∨P2_ k_)∨w.heap.size≤k_)) (.slice A1 l1.length c1) l1)∧Aside0 (Kd.V k47 47 w' w.heap.size (fun k_=>((P1_ k_∨P2_ k_)∨w.heap.size≤k_)) (.slice A2 l2.length c2) l2)∧Aside0 (Below w.heap.size w w'))
    case atStart=>exact ⟨(0),(by first|rfl|(simp;done)|(simp [*];done)),H',⟨Nat.le_refl _⟩,⟨by (with_reducible repeat (first|apply Kd.V_alloc|apply Kd.V_drewN|apply Kd.V_drew));exact HO_1.out⟩,⟨by (with_reducible repeat (first|apply Kd.V_alloc|apply Kd.V_drewN|apply Kd.V_drew));exact HO_2.out⟩,⟨by repeat (first|(with_reducible first|exact HB.out|apply below_alloc|apply pw_below_drewN|apply below_drew1)|exact HB.out)⟩⟩
    case round =>
     clear H'
     try clear c1
     try clear c2
     try clear p2
     try clear c6
     try clear c7
     try clear c8
     try clear c9
     try clear c19
     try clear p2
     obtain ⟨x36_2,rfl,HA,HK2,HO_1,HO_2,HB⟩:=hrel
     cases gk with
     | zero=>exact absurd HA.out (by simp [fleuronlaw19_ScanSamples.l0])
     | succ k2 =>
      have H:=HA.out
      clear HA
      simp only [fleuronlaw19_ScanSamples.l0] at H
      by_cases c22:x36_2<4
      ·rw [if_pos c22] at H
       have c22b0:decide (x36_2<4)=true:=decide_eq_true c22
       clear c22
       obtain ⟨y513,hy513⟩ : ∃ y_:List Bool,y_=(([false,true]:List Bool)):=⟨_,rfl⟩
       replace H:(fleuronlaw19_ScanSamples.l1 k2 l0 l1 l2 x36_2 x36_2 y513 (y513.length:Int) 0)=some r:=by first|(rw [hy513];with_reducible exact H)|(have H2_:=(Option.bind_some _ _).symm.trans H;rw [hy513];with_reducible exact H2_)|(have H2_:=(Option.bind_some _ _).symm.trans H;with_reducible exact H2_)|with_reducible exact H|(rw [hy513];exact H)|exact H
       have Ny513:=aK hy513
       clear hy513
       have H':=aK H
       clear H
       go_wp2_with ((with_reducible refine gate_dst (N:=39) rfl ?_);refine Kd.R_lit Kd.bool _ 4 ?hg (N:=39) ?hd (xs:=([false,true]:List Bool)) (inner:=[.bool false,.bool true]) (ok:=fun _=>True) (okp:=fun _=>True) ?hr ?hp (fun _ hk=>hk) trivial (Below.refl _ _) (Nat.le_refl _) (by simp) ?_;(case hd=>rfl);(case hg=>rfl);(case hr=>first|(go_simp;done)|(go_simp;rfl));(case hp=>exact (Reps.one (show Kd.M Kd.bool _ _ _ false [.bool false] from rfl) (Reps.one (show Kd.M Kd.bool _ _ _ true [.bool true] from rfl) (Reps.none _ _))));intro v514 w23 ho24 hb hg_ hnew_;clear hg_ hnew_;(first|rw [← Ny513.out] at ho24|(simp only [Int.reduceToNat] at ho24;rw [← Ny513.out] at ho24));have n0_:=aK (Kd.V_elder' (by (with_reducible repeat (first|apply Kd.V_alloc|apply Kd.V_drewN|apply Kd.V_drew));exact HO_1.out) (Kd.R_base ho24) hb);have n1_:=aK (Kd.V_elder' (by (with_reducible repeat (first|apply Kd.V_alloc|apply Kd.V_drewN|apply Kd.V_drew));exact HO_2.out) (Kd.R_base ho24) hb);have n2_:=aK (Kd.R_lower (Kd.R_newM (M:=fun k_=>(w.heap.size≤k_)) ho24 (below_size (by repeat (first|(with_reducible first|exact HB.out|apply below_alloc|apply pw_below_drewN|apply below_drew1)|exact HB.out))) (fun k_ h_=>h_)) (below_size (by repeat (first|(with_reducible first|exact HB.out|apply below_alloc|apply pw_below_drewN|apply below_drew1)|exact HB.out))));have n3_:=aK (below_step (by repeat (first|(with_reducible first|exact HB.out|apply below_alloc|apply pw_below_drewN|apply below_drew1)|exact HB.out)) hb);clear HO_1;clear HO_2;clear HB;have HO_1:=n0_;have HO_2:=n1_;have HO515:=n2_;have HB:=n3_;clear n0_ n1_ n2_ n3_;clear hb ho24;obtain ⟨Ao25,co25,eo25⟩:=Kd.R_slice HO515.out;subst eo25)
       go_loopg [41] k2 (fun kq v41 w'=>∃ (x41_3:Int),v41 = .int .i64 x41_3∧Aside0 (fleuronlaw19_ScanSamples.l1 kq l0 l1 l2 x36_2 x36_2 y513 (y513.length:Int) x41_3=some r)∧Aside0 (kq≤k2)∧Aside0 (Kd.V k47 47 w' w.heap.size (fun k_=>((P1_ k_∨P2_ k_)∨w.heap.size≤k_)∧some k_≠((.slice Ao25 y513.length co25):Value).ownBlock) (.slice A1 l1.length c1) l1)∧Aside0 (Kd.V k47 47 w' w.heap.size (fun k_=>((P1_ k_∨P2_ k_)∨w.heap.size≤k_)∧some k_≠((.slice Ao25 y513.length co25):Value).ownBlock) (.slice A2 l2.length c2) l2)∧Aside0 (Kd.R Kd.bool 4 w' w.heap.size (fun k_=>(w.heap.size≤k_)) (.slice Ao25 y513.length co25) y513)∧Aside0 (Below w.heap.size w w'))
       case atStart=>exact ⟨(0),(by first|rfl|(simp;done)|(simp [*];done)),H',⟨Nat.le_refl _⟩,⟨by (with_reducible repeat (first|apply Kd.V_alloc|apply Kd.V_drewN|apply Kd.V_drew));exact HO_1.out⟩,⟨by (with_reducible repeat (first|apply Kd.V_alloc|apply Kd.V_drewN|apply Kd.V_drew));exact HO_2.out⟩,⟨by (with_reducible repeat (first|apply Kd.R_alloc|apply Kd.R_drewN|apply Kd.R_drew));exact Kd.R_mono HO515.out (fun _ hk=>hk.1)⟩,⟨by repeat (first|(with_reducible first|exact HB.out|apply below_alloc|apply pw_below_drewN|apply below_drew1)|exact HB.out)⟩⟩
       case round =>
        clear H'
        try clear c1
        try clear c2
        try clear p2
        try clear c6
        try clear c7
        try clear c8
        try clear c9
        try clear c19
        try clear c22
        try clear c22b0
        try clear p2
        obtain ⟨x41_3,rfl,HA,HK3,HO_1,HO_2,HO_39,HB⟩:=hrel
        cases gk with
        | zero=>exact absurd HA.out (by simp [fleuronlaw19_ScanSamples.l1])
        | succ k3 =>
         have H:=HA.out
         clear HA
         simp only [fleuronlaw19_ScanSamples.l1] at H
         by_cases c26:x41_3<(y513.length:Int)
         ·rw [if_pos c26] at H
          have c26b0:decide (x41_3<(y513.length:Int))=true:=decide_eq_true c26
          clear c26
          by_cases c27:0≤x41_3
          ·rw [if_pos c27] at H
           have c27b0:decide (0≤x41_3)=true:=decide_eq_true c27
           clear c27
           by_cases c28:x41_3<(y513.length:Int)
           ·rw [if_pos c28] at H
            have c28b0:decide (x41_3<(y513.length:Int))=true:=decide_eq_true c28
            clear c28
            replace H:=Option.bind_eq_some_iff.mp H
            obtain ⟨⟨t517,t518⟩,A290,H⟩:=H
            replace H:(fleuronlaw19_ScanSamples.l2 k3 l0 l1 l2 x36_2 (rdOf false y513 x41_3) t517 t518 x36_2 y513 (y513.length:Int) x41_3 0)=some r:=H
            have A29:=aK A290
            clear A290
            have H':=aK H
            clear H
            have p516:0≤(x41_3:Int):=of_decide_eq_true (by first|(with_reducible assumption)|assumption)
            have q516:x41_3<(y513.length:Int):=of_decide_eq_true (by first|(with_reducible assumption)|assumption)
            obtain ⟨ad516,e516,hx516_0⟩:=Kd.at_bool (Kd.R_reads' HO_39.out).2.2 x41_3 p516 q516
            cases e516
            replace p516:=eq_true p516
            replace q516:=eq_true q516
            go_wp2_with ((with_reducible refine gate_callee (f:=10) rfl ?_);refine goesL_ (some 49) rfl rfl Tryz.func10 (by kernel_rfl) rfl #[.slice A0 l0.length c0,.bool (rdOf false y513 x41_3),.int .i64 12,.int .i64 x36_2] rfl (by (try simp only [List.map_toArray,List.map_cons,List.map_nil]);first|done|rfl|(simp only [List.length_drop,List.length_take];rfl)) ?_;(with_reducible refine (scan_Row.calls k3 _ _ l0 (rdOf false y513 x41_3) 12 x36_2 t517 t518 _ ?side1 ?side2 A29.out).mono ?_);(case side1=>repeat (first|exact (Kd.C_below HR0.out HB.out)|(with_reducible refine Kd.C_alloc ?_ _)|(with_reducible refine Kd.C_drewN ?_ _)|(with_reducible refine Kd.C_drew ?_)));(case side2=>exact HC0.out);rintro e w30 ⟨v519,rfl,ho0,hb⟩;refine ⟨_,rfl,?_⟩;have n0_:=aK (Kd.V_elder' (by (with_reducible repeat (first|apply Kd.V_alloc|apply Kd.V_drewN|apply Kd.V_drew));exact HO_1.out) (Kd.R_base ho0) hb);have n1_:=aK (Kd.V_elder' (by (with_reducible repeat (first|apply Kd.V_alloc|apply Kd.V_drewN|apply Kd.V_drew));exact HO_2.out) (Kd.R_base ho0) hb);have n2_:=aK (Kd.R_below (by (with_reducible repeat (first|apply Kd.R_alloc|apply Kd.R_drewN|apply Kd.R_drew));exact HO_39.out) hb);have n3_:=aK (Kd.R_lower (Kd.R_newM (M:=fun k_=>(w.heap.size≤k_)) ho0 (below_size (by repeat (first|(with_reducible first|exact HB.out|apply below_alloc|apply pw_below_drewN|apply below_drew1)|exact HB.out))) (fun k_ h_=>h_)) (below_size (by repeat (first|(with_reducible first|exact HB.out|apply below_alloc|apply pw_below_drewN|apply below_drew1)|exact HB.out))));have n4_:=aK (below_step (by repeat (first|(with_reducible first|exact HB.out|apply below_alloc|apply pw_below_drewN|apply below_drew1)|exact HB.out)) hb);clear HO_1;clear HO_2;clear HO_39;clear HB;have HO_1:=n0_;have HO_2:=n1_;have HO_39:=n2_;have HO520:=n3_;have HB:=n4_;clear n0_ n1_ n2_ n3_ n4_;(try clear hb);(try clear hb2);(try clear hk);(try clear hi);(try clear ho0))
            go_loopg [52] k3 (fun kq v52 w'=>∃ (x52_4:Int),v52 = .int .i64 x52_4∧Aside0 (fleuronlaw19_ScanSamples.l2 kq l0 l1 l2 x36_2 (rdOf false y513 x41_3) t517 t518 x36_2 y513 (y513.length:Int) x41_3 x52_4=some r)∧Aside0 (kq≤k3)∧Aside0 (Kd.V k47 47 w' w.heap.size (fun k_=>((P1_ k_∨P2_ k_)∨w.heap.size≤k_)∧some k_≠(v519:Value).ownBlock∧some k_≠((.slice (some ad516) y513.length co25):Value).ownBlock) (.slice A1 l1.length c1) l1)∧Aside0 (Kd.V k47 47 w' w.heap.size (fun k_=>((P1_ k_∨P2_ k_)∨w.heap.size≤k_)∧some k_≠(v519:Value).ownBlock∧some k_≠((.slice (some ad516) y513.length co25):Value).ownBlock) (.slice A2 l2.length c2) l2)∧Aside0 (Kd.R k23 23 w' w.heap.size (fun k_=>(w.heap.size≤k_)) v519 t517)∧Aside0 (Kd.R Kd.bool 4 w' w.heap.size (fun k_=>(w.heap.size≤k_)) (.slice (some ad516) y513.length co25) y513)∧Aside0 (Below w.heap.size w w'))
            case atStart=>exact ⟨(0),(by first|rfl|(simp;done)|(simp [*];done)),H',⟨Nat.le_refl _⟩,⟨by (with_reducible repeat (first|apply Kd.V_alloc|apply Kd.V_drewN|apply Kd.V_drew));exact Kd.V_mono HO_1.out (fun _ hk=>⟨hk.1.1,⟨hk.2,hk.1.2⟩⟩)⟩,⟨by (with_reducible repeat (first|apply Kd.V_alloc|apply Kd.V_drewN|apply Kd.V_drew));exact Kd.V_mono HO_2.out (fun _ hk=>⟨hk.1.1,⟨hk.2,hk.1.2⟩⟩)⟩,⟨by (with_reducible repeat (first|apply Kd.R_alloc|apply Kd.R_drewN|apply Kd.R_drew));exact Kd.R_mono HO520.out (fun _ hk=>hk.1)⟩,⟨by (with_reducible repeat (first|apply Kd.R_alloc|apply Kd.R_drewN|apply Kd.R_drew));exact HO_39.out⟩,⟨by repeat (first|(with_reducible first|exact HB.out|apply below_alloc|apply pw_below_drewN|apply below_drew1)|exact HB.out)⟩⟩
            case round =>
             clear H'
             try clear c1
             try clear c2
             try clear p2
             try clear p5
             try clear q5
             try clear hx5
             try clear c6
             try clear c7
             try clear c8
             try clear c9
             try clear c10
             try clear c19
             try clear c22
             try clear c22b0
             try clear c26
             try clear c26b0
             try clear c27
             try clear c27b0
             try clear c28
             try clear c28b0
             try clear hx516_0
             try clear p2
             try clear p516
             try clear q516
             obtain ⟨x52_4,rfl,HA,HK4,HO_1,HO_2,HO_10,HO_39,HB⟩:=hrel
             cases gk with
             | zero=>exact absurd HA.out (by simp [fleuronlaw19_ScanSamples.l2])
             | succ k4 =>
              have H:=HA.out
              clear HA
              simp only [fleuronlaw19_ScanSamples.l2] at H
              by_cases c31:x52_4<12
              ·rw [if_pos c31] at H
               have c31b0:decide (x52_4<12)=true:=decide_eq_true c31
               clear c31
               replace H:=Option.bind_eq_some_iff.mp H
               obtain ⟨⟨t521,t522⟩,A320,H⟩:=H
               replace H:((wind_Inside.f k4 l0 (rdOf false y513 x41_3) t521 t522).bind fun bt523=>(if bt523.2=t518 then (if t518=0 then ((fleuronlaw19_in.f k4 t517 x52_4).bind fun t525=>(if (t525 != bt523.1)=true then (some false) else (fleuronlaw19_ScanSamples.l2 k4 l0 l1 l2 x36_2 (rdOf false y513 x41_3) t517 t518 x36_2 y513 (y513.length:Int) x41_3 (wrap64 (x52_4+1))))) else (fleuronlaw19_ScanSamples.l2 k4 l0 l1 l2 x36_2 (rdOf false y513 x41_3) t517 t518 x36_2 y513 (y513.length:Int) x41_3 (wrap64 (x52_4+1)))) else (some false)))=some r:=H
               have A32:=aK A320
               clear A320
               replace H:=Option.bind_eq_some_iff.mp H
               obtain ⟨⟨t523,t524⟩,A330,H⟩:=H
               replace H:(if t524=t518 then (if t518=0 then ((fleuronlaw19_in.f k4 t517 x52_4).bind fun t525=>(if (t525 != t523)=true then (some false) else (fleuronlaw19_ScanSamples.l2 k4 l0 l1 l2 x36_2 (rdOf false y513 x41_3) t517 t518 x36_2 y513 (y513.length:Int) x41_3 (wrap64 (x52_4+1))))) else (fleuronlaw19_ScanSamples.l2 k4 l0 l1 l2 x36_2 (rdOf false y513 x41_3) t517 t518 x36_2 y513 (y513.length:Int) x41_3 (wrap64 (x52_4+1)))) else (some false))=some r:=H
               have A33:=aK A330
               clear A330
               by_cases c34:t524=t518
               ·rw [if_pos c34] at H
                have c34b0:(t524 == t518)=true:=beq_iff_eq.mpr c34
                have c34b1:(t524 != t518)=false:=bne_eq_false_iff_eq.mpr c34
                clear c34
                by_cases c35:t518=0
                ·rw [if_pos c35] at H
                 have c35b0:(t518 == 0)=true:=beq_iff_eq.mpr c35
                 have c35b1:(t518 != 0)=false:=bne_eq_false_iff_eq.mpr c35
                 clear c35
                 replace H:=Option.bind_eq_some_iff.mp H
                 obtain ⟨t525,A360,H⟩:=H
                 replace H:(if (t525 != t523)=true then (some false) else (fleuronlaw19_ScanSamples.l2 k4 l0 l1 l2 x36_2 (rdOf false y513 x41_3) t517 t518 x36_2 y513 (y513.length:Int) x41_3 (wrap64 (x52_4+1))))=some r:=H
                 have A36:=aK A360
                 clear A360
                 by_cases c37:(t525 != t523)=true
                 ·rw [if_pos c37] at H
                  have c37b0:(t525 != t523)=true:=c37
                  (try (have c37b1:decide (t525=t523)=false:=by simpa using c37))
                  (try (have c37b2:(t525 == t523)=false:=by simpa using c37))
                  (try (have c37b3 : ¬ (t525=t523):=by simpa using c37))
                  clear c37
                  obtain rfl:=Option.some.inj H
                  go_wp2_with (first|((with_reducible refine gate_callee (f:=31) rfl ?_);refine goesL_ (some 60) rfl rfl Tryz.func31 (by kernel_rfl) rfl #[.int .i64 x52_4,.int .i64 x36_2] rfl (by (try simp only [List.map_toArray,List.map_cons,List.map_nil]);first|done|rfl|(simp only [List.length_drop,List.length_take];rfl)) ?_;(with_reducible refine (fleuronref19_Sample.calls x52_4 x36_2 t521 t522 _ A32.out).mono ?_);rintro e w38 ⟨rfl,hb⟩;refine ⟨_,rfl,?_⟩;have n0_:=aK (Kd.V_below (by (with_reducible repeat (first|apply Kd.V_alloc|apply Kd.V_drewN|apply Kd.V_drew));exact HO_1.out) hb);have n1_:=aK (Kd.V_below (by (with_reducible repeat (first|apply Kd.V_alloc|apply Kd.V_drewN|apply Kd.V_drew));exact HO_2.out) hb);have n2_:=aK (Kd.R_below (by (with_reducible repeat (first|apply Kd.R_alloc|apply Kd.R_drewN|apply Kd.R_drew));exact HO_10.out) hb);have n3_:=aK (Kd.R_below (by (with_reducible repeat (first|apply Kd.R_alloc|apply Kd.R_drewN|apply Kd.R_drew));exact HO_39.out) hb);have n4_:=aK (below_step (by repeat (first|(with_reducible first|exact HB.out|apply below_alloc|apply pw_below_drewN|apply below_drew1)|exact HB.out)) hb);clear HO_1;clear HO_2;clear HO_10;clear HO_39;clear HB;have HO_1:=n0_;have HO_2:=n1_;have HO_10:=n2_;have HO_39:=n3_;have HB:=n4_;clear n0_ n1_ n2_ n3_ n4_;(try clear hb);(try clear hb2);(try clear hk);(try clear hi))|((with_reducible refine gate_callee (f:=30) rfl ?_);refine goesL_ (some 61) rfl rfl Tryz.func30 (by kernel_rfl) rfl #[.slice A0 l0.length c0,.bool (rdOf false y513 x41_3),.agg #[.int .i64 t521,.int .i64 t522]] rfl (by (try simp only [List.map_toArray,List.map_cons,List.map_nil]);first|done|rfl|(simp only [List.length_drop,List.length_take];rfl)) ?_;(with_reducible refine (wind_Inside.calls k4 _ _ l0 (rdOf false y513 x41_3) t521 t522 t523 t524 _ ?side1 ?side2 A33.out).mono ?_);(case side1=>repeat (first|exact (Kd.C_below HR0.out HB.out)|(with_reducible refine Kd.C_alloc ?_ _)|(with_reducible refine Kd.C_drewN ?_ _)|(with_reducible refine Kd.C_drew ?_)));(case side2=>exact HC0.out);rintro e w39 ⟨rfl,hb⟩;refine ⟨_,rfl,?_⟩;have n0_:=aK (Kd.V_below (by (with_reducible repeat (first|apply Kd.V_alloc|apply Kd.V_drewN|apply Kd.V_drew));exact HO_1.out) hb);have n1_:=aK (Kd.V_below (by (with_reducible repeat (first|apply Kd.V_alloc|apply Kd.V_drewN|apply Kd.V_drew));exact HO_2.out) hb);have n2_:=aK (Kd.R_below (by (with_reducible repeat (first|apply Kd.R_alloc|apply Kd.R_drewN|apply Kd.R_drew));exact HO_10.out) hb);have n3_:=aK (Kd.R_below (by (with_reducible repeat (first|apply Kd.R_alloc|apply Kd.R_drewN|apply Kd.R_drew));exact HO_39.out) hb);have n4_:=aK (below_step (by repeat (first|(with_reducible first|exact HB.out|apply below_alloc|apply pw_below_drewN|apply below_drew1)|exact HB.out)) hb);clear HO_1;clear HO_2;clear HO_10;clear HO_39;clear HB;have HO_1:=n0_;have HO_2:=n1_;have HO_10:=n2_;have HO_39:=n3_;have HB:=n4_;clear n0_ n1_ n2_ n3_ n4_;(try clear hb);(try clear hb2);(try clear hk);(try clear hi);obtain ⟨Ao40,co40,eo40⟩:=Kd.R_slice HO_10.out;subst eo40)|(go_at_call 28;(with_reducible refine (fleuronlaw19_in.calls k4 _ _ t517 x52_4 t525 _ ?side1 ?side2 A36.out).mono ?_);(case side1=>repeat (first|exact (Kd.R_reads' HO_10.out).2.2|(with_reducible refine Kd.C_alloc ?_ _)|(with_reducible refine Kd.C_drewN ?_ _)|(with_reducible refine Kd.C_drew ?_)));(case side2=>exact (Kd.R_reads' HO_10.out).2.1);rintro e w41 ⟨rfl,hb⟩;have n0_:=aK (Kd.V_below (by (with_reducible repeat (first|apply Kd.V_alloc|apply Kd.V_drewN|apply Kd.V_drew));exact HO_1.out) hb);have n1_:=aK (Kd.V_below (by (with_reducible repeat (first|apply Kd.V_alloc|apply Kd.V_drewN|apply Kd.V_drew));exact HO_2.out) hb);have n2_:=aK (Kd.R_below (by (with_reducible repeat (first|apply Kd.R_alloc|apply Kd.R_drewN|apply Kd.R_drew));exact HO_10.out) hb);have n3_:=aK (Kd.R_below (by (with_reducible repeat (first|apply Kd.R_alloc|apply Kd.R_drewN|apply Kd.R_drew));exact HO_39.out) hb);have n4_:=aK (below_step (by repeat (first|(with_reducible first|exact HB.out|apply below_alloc|apply pw_below_drewN|apply below_drew1)|exact HB.out)) hb);clear HO_1;clear HO_2;clear HO_10;clear HO_39;clear HB;have HO_1:=n0_;have HO_2:=n1_;have HO_10:=n2_;have HO_39:=n3_;have HB:=n4_;clear n0_ n1_ n2_ n3_ n4_;(try clear hb);(try clear hb2);(try clear hk);(try clear hi)))
                  go_ret
                  exact ⟨by first|rfl|(simp [errW_none,errW_some] <;> rfl)|(simp [*,errW_none,errW_some] <;> rfl),by repeat (first|(with_reducible first|exact HB.out|apply below_alloc|apply pw_below_drewN|apply below_drew1)|exact HB.out)⟩
                 ·rw [if_neg c37] at H
                  have c37b0:(t525 != t523)=false:=by simpa using c37
                  (try (have c37b1:decide (t525=t523)=true:=by simpa using c37))
                  (try (have c37b2:(t525 == t523)=true:=by simpa using c37))
                  clear c37
                  have H':=aK H
                  clear H
                  go_wp2_with (first|((with_reducible refine gate_callee (f:=31) rfl ?_);refine goesL_ (some 60) rfl rfl Tryz.func31 (by kernel_rfl) rfl #[.int .i64 x52_4,.int .i64 x36_2] rfl (by (try simp only [List.map_toArray,List.map_cons,List.map_nil]);first|done|rfl|(simp only [List.length_drop,List.length_take];rfl)) ?_;(with_reducible refine (fleuronref19_Sample.calls x52_4 x36_2 t521 t522 _ A32.out).mono ?_);rintro e w42 ⟨rfl,hb⟩;refine ⟨_,rfl,?_⟩;have n0_:=aK (Kd.V_below (by (with_reducible repeat (first|apply Kd.V_alloc|apply Kd.V_drewN|apply Kd.V_drew));exact HO_1.out) hb);have n1_:=aK (Kd.V_below (by (with_reducible repeat (first|apply Kd.V_alloc|apply Kd.V_drewN|apply Kd.V_drew));exact HO_2.out) hb);have n2_:=aK (Kd.R_below (by (with_reducible repeat (first|apply Kd.R_alloc|apply Kd.R_drewN|apply Kd.R_drew));exact HO_10.out) hb);have n3_:=aK (Kd.R_below (by (with_reducible repeat (first|apply Kd.R_alloc|apply Kd.R_drewN|apply Kd.R_drew));exact HO_39.out) hb);have n4_:=aK (below_step (by repeat (first|(with_reducible first|exact HB.out|apply below_alloc|apply pw_below_drewN|apply below_drew1)|exact HB.out)) hb);clear HO_1;clear HO_2;clear HO_10;clear HO_39;clear HB;have HO_1:=n0_;have HO_2:=n1_;have HO_10:=n2_;have HO_39:=n3_;have HB:=n4_;clear n0_ n1_ n2_ n3_ n4_;(try clear hb);(try clear hb2);(try clear hk);(try clear hi))|((with_reducible refine gate_callee (f:=30) rfl ?_);refine goesL_ (some 61) rfl rfl Tryz.func30 (by kernel_rfl) rfl #[.slice A0 l0.length c0,.bool (rdOf false y513 x41_3),.agg #[.int .i64 t521,.int .i64 t522]] rfl (by (try simp only [List.map_toArray,List.map_cons,List.map_nil]);first|done|rfl|(simp only [List.length_drop,List.length_take];rfl)) ?_;(with_reducible refine (wind_Inside.calls k4 _ _ l0 (rdOf false y513 x41_3) t521 t522 t523 t524 _ ?side1 ?side2 A33.out).mono ?_);(case side1=>repeat (first|exact (Kd.C_below HR0.out HB.out)|(with_reducible refine Kd.C_alloc ?_ _)|(with_reducible refine Kd.C_drewN ?_ _)|(with_reducible refine Kd.C_drew ?_)));(case side2=>exact HC0.out);rintro e w43 ⟨rfl,hb⟩;refine ⟨_,rfl,?_⟩;have n0_:=aK (Kd.V_below (by (with_reducible repeat (first|apply Kd.V_alloc|apply Kd.V_drewN|apply Kd.V_drew));exact HO_1.out) hb);have n1_:=aK (Kd.V_below (by (with_reducible repeat (first|apply Kd.V_alloc|apply Kd.V_drewN|apply Kd.V_drew));exact HO_2.out) hb);have n2_:=aK (Kd.R_below (by (with_reducible repeat (first|apply Kd.R_alloc|apply Kd.R_drewN|apply Kd.R_drew));exact HO_10.out) hb);have n3_:=aK (Kd.R_below (by (with_reducible repeat (first|apply Kd.R_alloc|apply Kd.R_drewN|apply Kd.R_drew));exact HO_39.out) hb);have n4_:=aK (below_step (by repeat (first|(with_reducible first|exact HB.out|apply below_alloc|apply pw_below_drewN|apply below_drew1)|exact HB.out)) hb);clear HO_1;clear HO_2;clear HO_10;clear HO_39;clear HB;have HO_1:=n0_;have HO_2:=n1_;have HO_10:=n2_;have HO_39:=n3_;have HB:=n4_;clear n0_ n1_ n2_ n3_ n4_;(try clear hb);(try clear hb2);(try clear hk);(try clear hi);obtain ⟨Ao44,co44,eo44⟩:=Kd.R_slice HO_10.out;subst eo44)|(go_at_call 28;(with_reducible refine (fleuronlaw19_in.calls k4 _ _ t517 x52_4 t525 _ ?side1 ?side2 A36.out).mono ?_);(case side1=>repeat (first|exact (Kd.R_reads' HO_10.out).2.2|(with_reducible refine Kd.C_alloc ?_ _)|(with_reducible refine Kd.C_drewN ?_ _)|(with_reducible refine Kd.C_drew ?_)));(case side2=>exact (Kd.R_reads' HO_10.out).2.1);rintro e w45 ⟨rfl,hb⟩;have n0_:=aK (Kd.V_below (by (with_reducible repeat (first|apply Kd.V_alloc|apply Kd.V_drewN|apply Kd.V_drew));exact HO_1.out) hb);have n1_:=aK (Kd.V_below (by (with_reducible repeat (first|apply Kd.V_alloc|apply Kd.V_drewN|apply Kd.V_drew));exact HO_2.out) hb);have n2_:=aK (Kd.R_below (by (with_reducible repeat (first|apply Kd.R_alloc|apply Kd.R_drewN|apply Kd.R_drew));exact HO_10.out) hb);have n3_:=aK (Kd.R_below (by (with_reducible repeat (first|apply Kd.R_alloc|apply Kd.R_drewN|apply Kd.R_drew));exact HO_39.out) hb);have n4_:=aK (below_step (by repeat (first|(with_reducible first|exact HB.out|apply below_alloc|apply pw_below_drewN|apply below_drew1)|exact HB.out)) hb);clear HO_1;clear HO_2;clear HO_10;clear HO_39;clear HB;have HO_1:=n0_;have HO_2:=n1_;have HO_10:=n2_;have HO_39:=n3_;have HB:=n4_;clear n0_ n1_ n2_ n3_ n4_;(try clear hb);(try clear hb2);(try clear hk);(try clear hi)))
                  go_roundg k4
                  case measure=>have:=HJ3.out;have:=HK2.out;have:=HK3.out;have:=HK4.out;omega
                  case rel=>exact ⟨(wrap64 (x52_4+1)),(by first|rfl|(simp;done)|(simp [*];done)),H',⟨by have:=HJ3.out;have:=HK2.out;have:=HK3.out;have:=HK4.out;omega⟩,⟨by (with_reducible repeat (first|apply Kd.V_alloc|apply Kd.V_drewN|apply Kd.V_drew));exact HO_1.out⟩,⟨by (with_reducible repeat (first|apply Kd.V_alloc|apply Kd.V_drewN|apply Kd.V_drew));exact HO_2.out⟩,⟨by (with_reducible repeat (first|apply Kd.R_alloc|apply Kd.R_drewN|apply Kd.R_drew));exact HO_10.out⟩,⟨by (with_reducible repeat (first|apply Kd.R_alloc|apply Kd.R_drewN|apply Kd.R_drew));exact HO_39.out⟩,⟨by repeat (first|(with_reducible first|exact HB.out|apply below_alloc|apply pw_below_drewN|apply below_drew1)|exact HB.out)⟩⟩
                ·rw [if_neg c35] at H
                 have c35b0:(t518 == 0)=false:=beq_eq_false_iff_ne.mpr c35
                 have c35b1:(t518 != 0)=true:=bne_iff_ne.mpr c35
                 have H':=aK H
                 clear H
                 go_wp2_with (first|((with_reducible refine gate_callee (f:=31) rfl ?_);refine goesL_ (some 60) rfl rfl Tryz.func31 (by kernel_rfl) rfl #[.int .i64 x52_4,.int .i64 x36_2] rfl (by (try simp only [List.map_toArray,List.map_cons,List.map_nil]);first|done|rfl|(simp only [List.length_drop,List.length_take];rfl)) ?_;(with_reducible refine (fleuronref19_Sample.calls x52_4 x36_2 t521 t522 _ A32.out).mono ?_);rintro e w46 ⟨rfl,hb⟩;refine ⟨_,rfl,?_⟩;have n0_:=aK (Kd.V_below (by (with_reducible repeat (first|apply Kd.V_alloc|apply Kd.V_drewN|apply Kd.V_drew));exact HO_1.out) hb);have n1_:=aK (Kd.V_below (by (with_reducible repeat (first|apply Kd.V_alloc|apply Kd.V_drewN|apply Kd.V_drew));exact HO_2.out) hb);have n2_:=aK (Kd.R_below (by (with_reducible repeat (first|apply Kd.R_alloc|apply Kd.R_drewN|apply Kd.R_drew));exact HO_10.out) hb);have n3_:=aK (Kd.R_below (by (with_reducible repeat (first|apply Kd.R_alloc|apply Kd.R_drewN|apply Kd.R_drew));exact HO_39.out) hb);have n4_:=aK (below_step (by repeat (first|(with_reducible first|exact HB.out|apply below_alloc|apply pw_below_drewN|apply below_drew1)|exact HB.out)) hb);clear HO_1;clear HO_2;clear HO_10;clear HO_39;clear HB;have HO_1:=n0_;have HO_2:=n1_;have HO_10:=n2_;have HO_39:=n3_;have HB:=n4_;clear n0_ n1_ n2_ n3_ n4_;(try clear hb);(try clear hb2);(try clear hk);(try clear hi))|((with_reducible refine gate_callee (f:=30) rfl ?_);refine goesL_ (some 61) rfl rfl Tryz.func30 (by kernel_rfl) rfl #[.slice A0 l0.length c0,.bool (rdOf false y513 x41_3),.agg #[.int .i64 t521,.int .i64 t522]] rfl (by (try simp only [List.map_toArray,List.map_cons,List.map_nil]);first|done|rfl|(simp only [List.length_drop,List.length_take];rfl)) ?_;(with_reducible refine (wind_Inside.calls k4 _ _ l0 (rdOf false y513 x41_3) t521 t522 t523 t524 _ ?side1 ?side2 A33.out).mono ?_);(case side1=>repeat (first|exact (Kd.C_below HR0.out HB.out)|(with_reducible refine Kd.C_alloc ?_ _)|(with_reducible refine Kd.C_drewN ?_ _)|(with_reducible refine Kd.C_drew ?_)));(case side2=>exact HC0.out);rintro e w47 ⟨rfl,hb⟩;refine ⟨_,rfl,?_⟩;have n0_:=aK (Kd.V_below (by (with_reducible repeat (first|apply Kd.V_alloc|apply Kd.V_drewN|apply Kd.V_drew));exact HO_1.out) hb);have n1_:=aK (Kd.V_below (by (with_reducible repeat (first|apply Kd.V_alloc|apply Kd.V_drewN|apply Kd.V_drew));exact HO_2.out) hb);have n2_:=aK (Kd.R_below (by (with_reducible repeat (first|apply Kd.R_alloc|apply Kd.R_drewN|apply Kd.R_drew));exact HO_10.out) hb);have n3_:=aK (Kd.R_below (by (with_reducible repeat (first|apply Kd.R_alloc|apply Kd.R_drewN|apply Kd.R_drew));exact HO_39.out) hb);have n4_:=aK (below_step (by repeat (first|(with_reducible first|exact HB.out|apply below_alloc|apply pw_below_drewN|apply below_drew1)|exact HB.out)) hb);clear HO_1;clear HO_2;clear HO_10;clear HO_39;clear HB;have HO_1:=n0_;have HO_2:=n1_;have HO_10:=n2_;have HO_39:=n3_;have HB:=n4_;clear n0_ n1_ n2_ n3_ n4_;(try clear hb);(try clear hb2);(try clear hk);(try clear hi)))
                 go_roundg k4
                 case measure=>have:=HJ3.out;have:=HK2.out;have:=HK3.out;have:=HK4.out;omega
                 case rel=>exact ⟨(wrap64 (x52_4+1)),(by first|rfl|(simp;done)|(simp [*];done)),H',⟨by have:=HJ3.out;have:=HK2.out;have:=HK3.out;have:=HK4.out;omega⟩,⟨by (with_reducible repeat (first|apply Kd.V_alloc|apply Kd.V_drewN|apply Kd.V_drew));exact HO_1.out⟩,⟨by (with_reducible repeat (first|apply Kd.V_alloc|apply Kd.V_drewN|apply Kd.V_drew));exact HO_2.out⟩,⟨by (with_reducible repeat (first|apply Kd.R_alloc|apply Kd.R_drewN|apply Kd.R_drew));exact HO_10.out⟩,⟨by (with_reducible repeat (first|apply Kd.R_alloc|apply Kd.R_drewN|apply Kd.R_drew));exact HO_39.out⟩,⟨by repeat (first|(with_reducible first|exact HB.out|apply below_alloc|apply pw_below_drewN|apply below_drew1)|exact HB.out)⟩⟩
               ·rw [if_neg c34] at H
                have c34b0:(t524 == t518)=false:=beq_eq_false_iff_ne.mpr c34
                have c34b1:(t524 != t518)=true:=bne_iff_ne.mpr c34
                obtain rfl:=Option.some.inj H
                go_wp2_with (first|((with_reducible refine gate_callee (f:=31) rfl ?_);refine goesL_ (some 60) rfl rfl Tryz.func31 (by kernel_rfl) rfl #[.int .i64 x52_4,.int .i64 x36_2] rfl (by (try simp only [List.map_toArray,List.map_cons,List.map_nil]);first|done|rfl|(simp only [List.length_drop,List.length_take];rfl)) ?_;(with_reducible refine (fleuronref19_Sample.calls x52_4 x36_2 t521 t522 _ A32.out).mono ?_);rintro e w48 ⟨rfl,hb⟩;refine ⟨_,rfl,?_⟩;have n0_:=aK (Kd.V_below (by (with_reducible repeat (first|apply Kd.V_alloc|apply Kd.V_drewN|apply Kd.V_drew));exact HO_1.out) hb);have n1_:=aK (Kd.V_below (by (with_reducible repeat (first|apply Kd.V_alloc|apply Kd.V_drewN|apply Kd.V_drew));exact HO_2.out) hb);have n2_:=aK (Kd.R_below (by (with_reducible repeat (first|apply Kd.R_alloc|apply Kd.R_drewN|apply Kd.R_drew));exact HO_10.out) hb);have n3_:=aK (Kd.R_below (by (with_reducible repeat (first|apply Kd.R_alloc|apply Kd.R_drewN|apply Kd.R_drew));exact HO_39.out) hb);have n4_:=aK (below_step (by repeat (first|(with_reducible first|exact HB.out|apply below_alloc|apply pw_below_drewN|apply below_drew1)|exact HB.out)) hb);clear HO_1;clear HO_2;clear HO_10;clear HO_39;clear HB;have HO_1:=n0_;have HO_2:=n1_;have HO_10:=n2_;have HO_39:=n3_;have HB:=n4_;clear n0_ n1_ n2_ n3_ n4_;(try clear hb);(try clear hb2);(try clear hk);(try clear hi))|((with_reducible refine gate_callee (f:=30) rfl ?_);refine goesL_ (some 61) rfl rfl Tryz.func30 (by kernel_rfl) rfl #[.slice A0 l0.length c0,.bool (rdOf false y513 x41_3),.agg #[.int .i64 t521,.int .i64 t522]] rfl (by (try simp only [List.map_toArray,List.map_cons,List.map_nil]);first|done|rfl|(simp only [List.length_drop,List.length_take];rfl)) ?_;(with_reducible refine (wind_Inside.calls k4 _ _ l0 (rdOf false y513 x41_3) t521 t522 t523 t524 _ ?side1 ?side2 A33.out).mono ?_);(case side1=>repeat (first|exact (Kd.C_below HR0.out HB.out)|(with_reducible refine Kd.C_alloc ?_ _)|(with_reducible refine Kd.C_drewN ?_ _)|(with_reducible refine Kd.C_drew ?_)));(case side2=>exact HC0.out);rintro e w49 ⟨rfl,hb⟩;refine ⟨_,rfl,?_⟩;have n0_:=aK (Kd.V_below (by (with_reducible repeat (first|apply Kd.V_alloc|apply Kd.V_drewN|apply Kd.V_drew));exact HO_1.out) hb);have n1_:=aK (Kd.V_below (by (with_reducible repeat (first|apply Kd.V_alloc|apply Kd.V_drewN|apply Kd.V_drew));exact HO_2.out) hb);have n2_:=aK (Kd.R_below (by (with_reducible repeat (first|apply Kd.R_alloc|apply Kd.R_drewN|apply Kd.R_drew));exact HO_10.out) hb);have n3_:=aK (Kd.R_below (by (with_reducible repeat (first|apply Kd.R_alloc|apply Kd.R_drewN|apply Kd.R_drew));exact HO_39.out) hb);have n4_:=aK (below_step (by repeat (first|(with_reducible first|exact HB.out|apply below_alloc|apply pw_below_drewN|apply below_drew1)|exact HB.out)) hb);clear HO_1;clear HO_2;clear HO_10;clear HO_39;clear HB;have HO_1:=n0_;have HO_2:=n1_;have HO_10:=n2_;have HO_39:=n3_;have HB:=n4_;clear n0_ n1_ n2_ n3_ n4_;(try clear hb);(try clear hb2);(try clear hk);(try clear hi)))
                go_ret
                exact ⟨by first|rfl|(simp [errW_none,errW_some] <;> rfl)|(simp [*,errW_none,errW_some] <;> rfl),by repeat (first|(with_reducible first|exact HB.out|apply below_alloc|apply pw_below_drewN|apply below_drew1)|exact HB.out)⟩
              ·rw [if_neg c31] at H
               have c31b0:decide (x52_4<12)=false:=decide_eq_false c31
               clear c31
               have H':=aK H
               clear H
               go_wp2
               go_roundg k4
               case measure=>have:=HJ3.out;have:=HK2.out;have:=HK3.out;have:=HK4.out;omega
               case rel=>exact ⟨(wrap64 (x41_3+1)),(by first|rfl|(simp;done)|(simp [*];done)),H',⟨by have:=HJ3.out;have:=HK2.out;have:=HK3.out;have:=HK4.out;omega⟩,⟨by (with_reducible repeat (first|apply Kd.V_alloc|apply Kd.V_drewN|apply Kd.V_drew));exact Kd.V_mono HO_1.out (fun _ hk=>⟨hk.1,hk.2.2⟩)⟩,⟨by (with_reducible repeat (first|apply Kd.V_alloc|apply Kd.V_drewN|apply Kd.V_drew));exact Kd.V_mono HO_2.out (fun _ hk=>⟨hk.1,hk.2.2⟩)⟩,⟨by (with_reducible repeat (first|apply Kd.R_alloc|apply Kd.R_drewN|apply Kd.R_drew));exact HO_39.out⟩,⟨by repeat (first|(with_reducible first|exact HB.out|apply below_alloc|apply pw_below_drewN|apply below_drew1)|exact HB.out)⟩⟩
           ·rw [if_neg c28] at H
            exact absurd H (by simp)
          ·rw [if_neg c27] at H
           exact absurd H (by simp)
         ·rw [if_neg c26] at H
          have c26b0:decide (x41_3<(y513.length:Int))=false:=decide_eq_false c26
          clear c26
          replace H:=Option.bind_eq_some_iff.mp H
          obtain ⟨⟨t526,t527⟩,A500,H⟩:=H
          replace H:(fleuronlaw19_ScanSamples.l3 k3 l0 l1 l2 x36_2 t526 t527 x36_2 0)=some r:=H
          have A50:=aK A500
          clear A500
          have H':=aK H
          clear H
          go_wp2_with ((with_reducible refine gate_callee (f:=15) rfl ?_);refine goesL_ (some 84) rfl rfl Tryz.func15 (by kernel_rfl) rfl #[.slice A1 l1.length c1,.slice A2 l2.length c2,.int .i64 12,.int .i64 x36_2] rfl (by (try simp only [List.map_toArray,List.map_cons,List.map_nil]);first|done|rfl|(simp only [List.length_drop,List.length_take];rfl)) ?_;(with_reducible refine (scan_Pen.calls k3 _ _ l1 _ _ l2 12 x36_2 t526 t527 _ ?side1 ?side2 ?side3 ?side4 A50.out).mono ?_);(case side1=>repeat (first|exact (Kd.V_reads' HO_1.out).2.2|(with_reducible refine Kd.C_alloc ?_ _)|(with_reducible refine Kd.C_drewN ?_ _)|(with_reducible refine Kd.C_drew ?_)));(case side2=>exact (Kd.V_reads' HO_1.out).2.1);(case side3=>repeat (first|exact (Kd.V_reads' HO_2.out).2.2|(with_reducible refine Kd.C_alloc ?_ _)|(with_reducible refine Kd.C_drewN ?_ _)|(with_reducible refine Kd.C_drew ?_)));(case side4=>exact (Kd.V_reads' HO_2.out).2.1);rintro e w51 ⟨v528,rfl,ho0,hb⟩;refine ⟨_,rfl,?_⟩;have n0_:=aK (Kd.V_elder' (by (with_reducible repeat (first|apply Kd.V_alloc|apply Kd.V_drewN|apply Kd.V_drew));exact HO_1.out) (Kd.R_base ho0) hb);have n1_:=aK (Kd.V_elder' (by (with_reducible repeat (first|apply Kd.V_alloc|apply Kd.V_drewN|apply Kd.V_drew));exact HO_2.out) (Kd.R_base ho0) hb);have n2_:=aK (Kd.R_below (by (with_reducible repeat (first|apply Kd.R_alloc|apply Kd.R_drewN|apply Kd.R_drew));exact HO_39.out) hb);have n3_:=aK (Kd.R_lower (Kd.R_newM (M:=fun k_=>(w.heap.size≤k_)) ho0 (below_size (by repeat (first|(with_reducible first|exact HB.out|apply below_alloc|apply pw_below_drewN|apply below_drew1)|exact HB.out))) (fun k_ h_=>h_)) (below_size (by repeat (first|(with_reducible first|exact HB.out|apply below_alloc|apply pw_below_drewN|apply below_drew1)|exact HB.out))));have n4_:=aK (below_step (by repeat (first|(with_reducible first|exact HB.out|apply below_alloc|apply pw_below_drewN|apply below_drew1)|exact HB.out)) hb);clear HO_1;clear HO_2;clear HO_39;clear HB;have HO_1:=n0_;have HO_2:=n1_;have HO_39:=n2_;have HO529:=n3_;have HB:=n4_;clear n0_ n1_ n2_ n3_ n4_;(try clear hb);(try clear hb2);(try clear hk);(try clear hi);(try clear ho0))
          go_loopg [87] k3 (fun kq v87 w'=>∃ (x87_4:Int),v87 = .int .i64 x87_4∧Aside0 (fleuronlaw19_ScanSamples.l3 kq l0 l1 l2 x36_2 t526 t527 x36_2 x87_4=some r)∧Aside0 (kq≤k3)∧Aside0 (Kd.V k47 47 w' w.heap.size (fun k_=>((P1_ k_∨P2_ k_)∨w.heap.size≤k_)∧some k_≠(v528:Value).ownBlock) (.slice A1 l1.length c1) l1)∧Aside0 (Kd.V k47 47 w' w.heap.size (fun k_=>((P1_ k_∨P2_ k_)∨w.heap.size≤k_)∧some k_≠(v528:Value).ownBlock) (.slice A2 l2.length c2) l2)∧Aside0 (Kd.R k23 23 w' w.heap.size (fun k_=>(w.heap.size≤k_)) v528 t526)∧Aside0 (Below w.heap.size w w'))
          case atStart=>exact ⟨(0),(by first|rfl|(simp;done)|(simp [*];done)),H',⟨Nat.le_refl _⟩,⟨by (with_reducible repeat (first|apply Kd.V_alloc|apply Kd.V_drewN|apply Kd.V_drew));exact Kd.V_mono HO_1.out (fun _ hk=>⟨hk.1.1,hk.2⟩)⟩,⟨by (with_reducible repeat (first|apply Kd.V_alloc|apply Kd.V_drewN|apply Kd.V_drew));exact Kd.V_mono HO_2.out (fun _ hk=>⟨hk.1.1,hk.2⟩)⟩,⟨by (with_reducible repeat (first|apply Kd.R_alloc|apply Kd.R_drewN|apply Kd.R_drew));exact Kd.R_mono HO529.out (fun _ hk=>hk.1)⟩,⟨by repeat (first|(with_reducible first|exact HB.out|apply below_alloc|apply pw_below_drewN|apply below_drew1)|exact HB.out)⟩⟩
          case round =>
           clear H'
           try clear c1
           try clear c2
           try clear p2
           try clear c3
           try clear p5
           try clear q5
           try clear hx5
           try clear c6
           try clear p6
           try clear c7
           try clear c8
           try clear c9
           try clear c10
           try clear c15
           try clear c19
           try clear c22
           try clear c22b0
           try clear c26
           try clear c26b0
           try clear c27
           try clear c27b0
           try clear c28
           try clear c28b0
           try clear c30
           try clear c31
           try clear c31b0
           try clear c34
           try clear c34b0
           try clear c34b1
           try clear c35
           try clear c35b0
           try clear c35b1
           try clear c37
           try clear c37b0
           try clear c37b1
           try clear c37b2
           try clear p51
           try clear q51
           try clear hx51
           try clear hx516_0
           try clear p2
           try clear p5
           try clear p516
           try clear q5
           try clear q516
           obtain ⟨x87_4,rfl,HA,HK4,HO_1,HO_2,HO_15,HB⟩:=hrel
           cases gk with
           | zero=>exact absurd HA.out (by simp [fleuronlaw19_ScanSamples.l3])
           | succ k4 =>
            have H:=HA.out
            clear HA
            simp only [fleuronlaw19_ScanSamples.l3] at H
            by_cases c52:x87_4<12
            ·rw [if_pos c52] at H
             have c52b0:decide (x87_4<12)=true:=decide_eq_true c52
             clear c52
             replace H:=Option.bind_eq_some_iff.mp H
             obtain ⟨⟨t530,t531⟩,A530,H⟩:=H
             replace H:((pen_Along.f l1 l2 t530 t531).bind fun bt532=>(if bt532.2=t527 then (if t527=0 then ((fleuronlaw19_in.f k4 t526 x87_4).bind fun t534=>(if (t534 != bt532.1)=true then (some false) else (fleuronlaw19_ScanSamples.l3 k4 l0 l1 l2 x36_2 t526 t527 x36_2 (wrap64 (x87_4+1))))) else (fleuronlaw19_ScanSamples.l3 k4 l0 l1 l2 x36_2 t526 t527 x36_2 (wrap64 (x87_4+1)))) else (some false)))=some r:=H
             have A53:=aK A530
             clear A530
             replace H:=Option.bind_eq_some_iff.mp H
             obtain ⟨⟨t532,t533⟩,A540,H⟩:=H
             replace H:(if t533=t527 then (if t527=0 then ((fleuronlaw19_in.f k4 t526 x87_4).bind fun t534=>(if (t534 != t532)=true then (some false) else (fleuronlaw19_ScanSamples.l3 k4 l0 l1 l2 x36_2 t526 t527 x36_2 (wrap64 (x87_4+1))))) else (fleuronlaw19_ScanSamples.l3 k4 l0 l1 l2 x36_2 t526 t527 x36_2 (wrap64 (x87_4+1)))) else (some false))=some r:=H
             have A54:=aK A540
             clear A540
             by_cases c55:t533=t527
             ·rw [if_pos c55] at H
              have c55b0:(t533 == t527)=true:=beq_iff_eq.mpr c55
              have c55b1:(t533 != t527)=false:=bne_eq_false_iff_eq.mpr c55
              clear c55
              by_cases c56:t527=0
              ·rw [if_pos c56] at H
               have c56b0:(t527 == 0)=true:=beq_iff_eq.mpr c56
               have c56b1:(t527 != 0)=false:=bne_eq_false_iff_eq.mpr c56
               clear c56
               replace H:=Option.bind_eq_some_iff.mp H
               obtain ⟨t534,A570,H⟩:=H
               replace H:(if (t534 != t532)=true then (some false) else (fleuronlaw19_ScanSamples.l3 k4 l0 l1 l2 x36_2 t526 t527 x36_2 (wrap64 (x87_4+1))))=some r:=H
               have A57:=aK A570
               clear A570
               by_cases c58:(t534 != t532)=true
               ·rw [if_pos c58] at H
                have c58b0:(t534 != t532)=true:=c58
                (try (have c58b1:decide (t534=t532)=false:=by simpa using c58))
                (try (have c58b2:(t534 == t532)=false:=by simpa using c58))
                (try (have c58b3 : ¬ (t534=t532):=by simpa using c58))
                clear c58
                obtain rfl:=Option.some.inj H
                go_wp2_with (first|((with_reducible refine gate_callee (f:=31) rfl ?_);refine goesL_ (some 95) rfl rfl Tryz.func31 (by kernel_rfl) rfl #[.int .i64 x87_4,.int .i64 x36_2] rfl (by (try simp only [List.map_toArray,List.map_cons,List.map_nil]);first|done|rfl|(simp only [List.length_drop,List.length_take];rfl)) ?_;(with_reducible refine (fleuronref19_Sample.calls x87_4 x36_2 t530 t531 _ A53.out).mono ?_);rintro e w59 ⟨rfl,hb⟩;refine ⟨_,rfl,?_⟩;have n0_:=aK (Kd.V_below (by (with_reducible repeat (first|apply Kd.V_alloc|apply Kd.V_drewN|apply Kd.V_drew));exact HO_1.out) hb);have n1_:=aK (Kd.V_below (by (with_reducible repeat (first|apply Kd.V_alloc|apply Kd.V_drewN|apply Kd.V_drew));exact HO_2.out) hb);have n2_:=aK (Kd.R_below (by (with_reducible repeat (first|apply Kd.R_alloc|apply Kd.R_drewN|apply Kd.R_drew));exact HO_15.out) hb);have n3_:=aK (below_step (by repeat (first|(with_reducible first|exact HB.out|apply below_alloc|apply pw_below_drewN|apply below_drew1)|exact HB.out)) hb);clear HO_1;clear HO_2;clear HO_15;clear HB;have HO_1:=n0_;have HO_2:=n1_;have HO_15:=n2_;have HB:=n3_;clear n0_ n1_ n2_ n3_;(try clear hb);(try clear hb2);(try clear hk);(try clear hi))|((with_reducible refine gate_callee (f:=32) rfl ?_);refine goesL_ (some 96) rfl rfl Tryz.func32 (by kernel_rfl) rfl #[.slice A1 l1.length c1,.slice A2 l2.length c2,.agg #[.int .i64 t530,.int .i64 t531]] rfl (by (try simp only [List.map_toArray,List.map_cons,List.map_nil]);first|done|rfl|(simp only [List.length_drop,List.length_take];rfl)) ?_;(with_reducible refine (pen_Along.calls _ _ l1 _ _ l2 t530 t531 t532 t533 _ ?side1 ?side2 ?side3 ?side4 A54.out).mono ?_);(case side1=>repeat (first|exact (Kd.V_reads' HO_1.out).2.2|(with_reducible refine Kd.C_alloc ?_ _)|(with_reducible refine Kd.C_drewN ?_ _)|(with_reducible refine Kd.C_drew ?_)));(case side2=>exact (Kd.V_reads' HO_1.out).2.1);(case side3=>repeat (first|exact (Kd.V_reads' HO_2.out).2.2|(with_reducible refine Kd.C_alloc ?_ _)|(with_reducible refine Kd.C_drewN ?_ _)|(with_reducible refine Kd.C_drew ?_)));(case side4=>exact (Kd.V_reads' HO_2.out).2.1);rintro e w60 ⟨rfl,hb⟩;refine ⟨_,rfl,?_⟩;have n0_:=aK (Kd.V_below (by (with_reducible repeat (first|apply Kd.V_alloc|apply Kd.V_drewN|apply Kd.V_drew));exact HO_1.out) hb);have n1_:=aK (Kd.V_below (by (with_reducible repeat (first|apply Kd.V_alloc|apply Kd.V_drewN|apply Kd.V_drew));exact HO_2.out) hb);have n2_:=aK (Kd.R_below (by (with_reducible repeat (first|apply Kd.R_alloc|apply Kd.R_drewN|apply Kd.R_drew));exact HO_15.out) hb);have n3_:=aK (below_step (by repeat (first|(with_reducible first|exact HB.out|apply below_alloc|apply pw_below_drewN|apply below_drew1)|exact HB.out)) hb);clear HO_1;clear HO_2;clear HO_15;clear HB;have HO_1:=n0_;have HO_2:=n1_;have HO_15:=n2_;have HB:=n3_;clear n0_ n1_ n2_ n3_;(try clear hb);(try clear hb2);(try clear hk);(try clear hi);obtain ⟨Ao61,co61,eo61⟩:=Kd.R_slice HO_15.out;subst eo61)|(go_at_call 28;(with_reducible refine (fleuronlaw19_in.calls k4 _ _ t526 x87_4 t534 _ ?side1 ?side2 A57.out).mono ?_);(case side1=>repeat (first|exact (Kd.R_reads' HO_15.out).2.2|(with_reducible refine Kd.C_alloc ?_ _)|(with_reducible refine Kd.C_drewN ?_ _)|(with_reducible refine Kd.C_drew ?_)));(case side2=>exact (Kd.R_reads' HO_15.out).2.1);rintro e w62 ⟨rfl,hb⟩;have n0_:=aK (Kd.V_below (by (with_reducible repeat (first|apply Kd.V_alloc|apply Kd.V_drewN|apply Kd.V_drew));exact HO_1.out) hb);have n1_:=aK (Kd.V_below (by (with_reducible repeat (first|apply Kd.V_alloc|apply Kd.V_drewN|apply Kd.V_drew));exact HO_2.out) hb);have n2_:=aK (Kd.R_below (by (with_reducible repeat (first|apply Kd.R_alloc|apply Kd.R_drewN|apply Kd.R_drew));exact HO_15.out) hb);have n3_:=aK (below_step (by repeat (first|(with_reducible first|exact HB.out|apply below_alloc|apply pw_below_drewN|apply below_drew1)|exact HB.out)) hb);clear HO_1;clear HO_2;clear HO_15;clear HB;have HO_1:=n0_;have HO_2:=n1_;have HO_15:=n2_;have HB:=n3_;clear n0_ n1_ n2_ n3_;(try clear hb);(try clear hb2);(try clear hk);(try clear hi)))
                go_ret
                exact ⟨by first|rfl|(simp [errW_none,errW_some] <;> rfl)|(simp [*,errW_none,errW_some] <;> rfl),by repeat (first|(with_reducible first|exact HB.out|apply below_alloc|apply pw_below_drewN|apply below_drew1)|exact HB.out)⟩
               ·rw [if_neg c58] at H
                have c58b0:(t534 != t532)=false:=by simpa using c58
                (try (have c58b1:decide (t534=t532)=true:=by simpa using c58))
                (try (have c58b2:(t534 == t532)=true:=by simpa using c58))
                clear c58
                have H':=aK H
                clear H
                go_wp2_with (first|((with_reducible refine gate_callee (f:=31) rfl ?_);refine goesL_ (some 95) rfl rfl Tryz.func31 (by kernel_rfl) rfl #[.int .i64 x87_4,.int .i64 x36_2] rfl (by (try simp only [List.map_toArray,List.map_cons,List.map_nil]);first|done|rfl|(simp only [List.length_drop,List.length_take];rfl)) ?_;(with_reducible refine (fleuronref19_Sample.calls x87_4 x36_2 t530 t531 _ A53.out).mono ?_);rintro e w63 ⟨rfl,hb⟩;refine ⟨_,rfl,?_⟩;have n0_:=aK (Kd.V_below (by (with_reducible repeat (first|apply Kd.V_alloc|apply Kd.V_drewN|apply Kd.V_drew));exact HO_1.out) hb);have n1_:=aK (Kd.V_below (by (with_reducible repeat (first|apply Kd.V_alloc|apply Kd.V_drewN|apply Kd.V_drew));exact HO_2.out) hb);have n2_:=aK (Kd.R_below (by (with_reducible repeat (first|apply Kd.R_alloc|apply Kd.R_drewN|apply Kd.R_drew));exact HO_15.out) hb);have n3_:=aK (below_step (by repeat (first|(with_reducible first|exact HB.out|apply below_alloc|apply pw_below_drewN|apply below_drew1)|exact HB.out)) hb);clear HO_1;clear HO_2;clear HO_15;clear HB;have HO_1:=n0_;have HO_2:=n1_;have HO_15:=n2_;have HB:=n3_;clear n0_ n1_ n2_ n3_;(try clear hb);(try clear hb2);(try clear hk);(try clear hi))|((with_reducible refine gate_callee (f:=32) rfl ?_);refine goesL_ (some 96) rfl rfl Tryz.func32 (by kernel_rfl) rfl #[.slice A1 l1.length c1,.slice A2 l2.length c2,.agg #[.int .i64 t530,.int .i64 t531]] rfl (by (try simp only [List.map_toArray,List.map_cons,List.map_nil]);first|done|rfl|(simp only [List.length_drop,List.length_take];rfl)) ?_;(with_reducible refine (pen_Along.calls _ _ l1 _ _ l2 t530 t531 t532 t533 _ ?side1 ?side2 ?side3 ?side4 A54.out).mono ?_);(case side1=>repeat (first|exact (Kd.V_reads' HO_1.out).2.2|(with_reducible refine Kd.C_alloc ?_ _)|(with_reducible refine Kd.C_drewN ?_ _)|(with_reducible refine Kd.C_drew ?_)));(case side2=>exact (Kd.V_reads' HO_1.out).2.1);(case side3=>repeat (first|exact (Kd.V_reads' HO_2.out).2.2|(with_reducible refine Kd.C_alloc ?_ _)|(with_reducible refine Kd.C_drewN ?_ _)|(with_reducible refine Kd.C_drew ?_)));(case side4=>exact (Kd.V_reads' HO_2.out).2.1);rintro e w64 ⟨rfl,hb⟩;refine ⟨_,rfl,?_⟩;have n0_:=aK (Kd.V_below (by (with_reducible repeat (first|apply Kd.V_alloc|apply Kd.V_drewN|apply Kd.V_drew));exact HO_1.out) hb);have n1_:=aK (Kd.V_below (by (with_reducible repeat (first|apply Kd.V_alloc|apply Kd.V_drewN|apply Kd.V_drew));exact HO_2.out) hb);have n2_:=aK (Kd.R_below (by (with_reducible repeat (first|apply Kd.R_alloc|apply Kd.R_drewN|apply Kd.R_drew));exact HO_15.out) hb);have n3_:=aK (below_step (by repeat (first|(with_reducible first|exact HB.out|apply below_alloc|apply pw_below_drewN|apply below_drew1)|exact HB.out)) hb);clear HO_1;clear HO_2;clear HO_15;clear HB;have HO_1:=n0_;have HO_2:=n1_;have HO_15:=n2_;have HB:=n3_;clear n0_ n1_ n2_ n3_;(try clear hb);(try clear hb2);(try clear hk);(try clear hi);obtain ⟨Ao65,co65,eo65⟩:=Kd.R_slice HO_15.out;subst eo65)|(go_at_call 28;(with_reducible refine (fleuronlaw19_in.calls k4 _ _ t526 x87_4 t534 _ ?side1 ?side2 A57.out).mono ?_);(case side1=>repeat (first|exact (Kd.R_reads' HO_15.out).2.2|(with_reducible refine Kd.C_alloc ?_ _)|(with_reducible refine Kd.C_drewN ?_ _)|(with_reducible refine Kd.C_drew ?_)));(case side2=>exact (Kd.R_reads' HO_15.out).2.1);rintro e w66 ⟨rfl,hb⟩;have n0_:=aK (Kd.V_below (by (with_reducible repeat (first|apply Kd.V_alloc|apply Kd.V_drewN|apply Kd.V_drew));exact HO_1.out) hb);have n1_:=aK (Kd.V_below (by (with_reducible repeat (first|apply Kd.V_alloc|apply Kd.V_drewN|apply Kd.V_drew));exact HO_2.out) hb);have n2_:=aK (Kd.R_below (by (with_reducible repeat (first|apply Kd.R_alloc|apply Kd.R_drewN|apply Kd.R_drew));exact HO_15.out) hb);have n3_:=aK (below_step (by repeat (first|(with_reducible first|exact HB.out|apply below_alloc|apply pw_below_drewN|apply below_drew1)|exact HB.out)) hb);clear HO_1;clear HO_2;clear HO_15;clear HB;have HO_1:=n0_;have HO_2:=n1_;have HO_15:=n2_;have HB:=n3_;clear n0_ n1_ n2_ n3_;(try clear hb);(try clear hb2);(try clear hk);(try clear hi)))
                go_roundg k4
                case measure=>have:=HJ3.out;have:=HK2.out;have:=HK3.out;have:=HK4.out;omega
                case rel=>exact ⟨(wrap64 (x87_4+1)),(by first|rfl|(simp;done)|(simp [*];done)),H',⟨by have:=HJ3.out;have:=HK2.out;have:=HK3.out;have:=HK4.out;omega⟩,⟨by (with_reducible repeat (first|apply Kd.V_alloc|apply Kd.V_drewN|apply Kd.V_drew));exact HO_1.out⟩,⟨by (with_reducible repeat (first|apply Kd.V_alloc|apply Kd.V_drewN|apply Kd.V_drew));exact HO_2.out⟩,⟨by (with_reducible repeat (first|apply Kd.R_alloc|apply Kd.R_drewN|apply Kd.R_drew));exact HO_15.out⟩,⟨by repeat (first|(with_reducible first|exact HB.out|apply below_alloc|apply pw_below_drewN|apply below_drew1)|exact HB.out)⟩⟩
              ·rw [if_neg c56] at H
               have c56b0:(t527 == 0)=false:=beq_eq_false_iff_ne.mpr c56
               have c56b1:(t527 != 0)=true:=bne_iff_ne.mpr c56
               have H':=aK H
               clear H
               go_wp2_with (first|((with_reducible refine gate_callee (f:=31) rfl ?_);refine goesL_ (some 95) rfl rfl Tryz.func31 (by kernel_rfl) rfl #[.int .i64 x87_4,.int .i64 x36_2] rfl (by (try simp only [List.map_toArray,List.map_cons,List.map_nil]);first|done|rfl|(simp only [List.length_drop,List.length_take];rfl)) ?_;(with_reducible refine (fleuronref19_Sample.calls x87_4 x36_2 t530 t531 _ A53.out).mono ?_);rintro e w67 ⟨rfl,hb⟩;refine ⟨_,rfl,?_⟩;have n0_:=aK (Kd.V_below (by (with_reducible repeat (first|apply Kd.V_alloc|apply Kd.V_drewN|apply Kd.V_drew));exact HO_1.out) hb);have n1_:=aK (Kd.V_below (by (with_reducible repeat (first|apply Kd.V_alloc|apply Kd.V_drewN|apply Kd.V_drew));exact HO_2.out) hb);have n2_:=aK (Kd.R_below (by (with_reducible repeat (first|apply Kd.R_alloc|apply Kd.R_drewN|apply Kd.R_drew));exact HO_15.out) hb);have n3_:=aK (below_step (by repeat (first|(with_reducible first|exact HB.out|apply below_alloc|apply pw_below_drewN|apply below_drew1)|exact HB.out)) hb);clear HO_1;clear HO_2;clear HO_15;clear HB;have HO_1:=n0_;have HO_2:=n1_;have HO_15:=n2_;have HB:=n3_;clear n0_ n1_ n2_ n3_;(try clear hb);(try clear hb2);(try clear hk);(try clear hi))|((with_reducible refine gate_callee (f:=32) rfl ?_);refine goesL_ (some 96) rfl rfl Tryz.func32 (by kernel_rfl) rfl #[.slice A1 l1.length c1,.slice A2 l2.length c2,.agg #[.int .i64 t530,.int .i64 t531]] rfl (by (try simp only [List.map_toArray,List.map_cons,List.map_nil]);first|done|rfl|(simp only [List.length_drop,List.length_take];rfl)) ?_;(with_reducible refine (pen_Along.calls _ _ l1 _ _ l2 t530 t531 t532 t533 _ ?side1 ?side2 ?side3 ?side4 A54.out).mono ?_);(case side1=>repeat (first|exact (Kd.V_reads' HO_1.out).2.2|(with_reducible refine Kd.C_alloc ?_ _)|(with_reducible refine Kd.C_drewN ?_ _)|(with_reducible refine Kd.C_drew ?_)));(case side2=>exact (Kd.V_reads' HO_1.out).2.1);(case side3=>repeat (first|exact (Kd.V_reads' HO_2.out).2.2|(with_reducible refine Kd.C_alloc ?_ _)|(with_reducible refine Kd.C_drewN ?_ _)|(with_reducible refine Kd.C_drew ?_)));(case side4=>exact (Kd.V_reads' HO_2.out).2.1);rintro e w68 ⟨rfl,hb⟩;refine ⟨_,rfl,?_⟩;have n0_:=aK (Kd.V_below (by (with_reducible repeat (first|apply Kd.V_alloc|apply Kd.V_drewN|apply Kd.V_drew));exact HO_1.out) hb);have n1_:=aK (Kd.V_below (by (with_reducible repeat (first|apply Kd.V_alloc|apply Kd.V_drewN|apply Kd.V_drew));exact HO_2.out) hb);have n2_:=aK (Kd.R_below (by (with_reducible repeat (first|apply Kd.R_alloc|apply Kd.R_drewN|apply Kd.R_drew));exact HO_15.out) hb);have n3_:=aK (below_step (by repeat (first|(with_reducible first|exact HB.out|apply below_alloc|apply pw_below_drewN|apply below_drew1)|exact HB.out)) hb);clear HO_1;clear HO_2;clear HO_15;clear HB;have HO_1:=n0_;have HO_2:=n1_;have HO_15:=n2_;have HB:=n3_;clear n0_ n1_ n2_ n3_;(try clear hb);(try clear hb2);(try clear hk);(try clear hi)))
               go_roundg k4
               case measure=>have:=HJ3.out;have:=HK2.out;have:=HK3.out;have:=HK4.out;omega
               case rel=>exact ⟨(wrap64 (x87_4+1)),(by first|rfl|(simp;done)|(simp [*];done)),H',⟨by have:=HJ3.out;have:=HK2.out;have:=HK3.out;have:=HK4.out;omega⟩,⟨by (with_reducible repeat (first|apply Kd.V_alloc|apply Kd.V_drewN|apply Kd.V_drew));exact HO_1.out⟩,⟨by (with_reducible repeat (first|apply Kd.V_alloc|apply Kd.V_drewN|apply Kd.V_drew));exact HO_2.out⟩,⟨by (with_reducible repeat (first|apply Kd.R_alloc|apply Kd.R_drewN|apply Kd.R_drew));exact HO_15.out⟩,⟨by repeat (first|(with_reducible first|exact HB.out|apply below_alloc|apply pw_below_drewN|apply below_drew1)|exact HB.out)⟩⟩
             ·rw [if_neg c55] at H
              have c55b0:(t533 == t527)=false:=beq_eq_false_iff_ne.mpr c55
              have c55b1:(t533 != t527)=true:=bne_iff_ne.mpr c55
              obtain rfl:=Option.some.inj H
              go_wp2_with (first|((with_reducible refine gate_callee (f:=31) rfl ?_);refine goesL_ (some 95) rfl rfl Tryz.func31 (by kernel_rfl) rfl #[.int .i64 x87_4,.int .i64 x36_2] rfl (by (try simp only [List.map_toArray,List.map_cons,List.map_nil]);first|done|rfl|(simp only [List.length_drop,List.length_take];rfl)) ?_;(with_reducible refine (fleuronref19_Sample.calls x87_4 x36_2 t530 t531 _ A53.out).mono ?_);rintro e w69 ⟨rfl,hb⟩;refine ⟨_,rfl,?_⟩;have n0_:=aK (Kd.V_below (by (with_reducible repeat (first|apply Kd.V_alloc|apply Kd.V_drewN|apply Kd.V_drew));exact HO_1.out) hb);have n1_:=aK (Kd.V_below (by (with_reducible repeat (first|apply Kd.V_alloc|apply Kd.V_drewN|apply Kd.V_drew));exact HO_2.out) hb);have n2_:=aK (Kd.R_below (by (with_reducible repeat (first|apply Kd.R_alloc|apply Kd.R_drewN|apply Kd.R_drew));exact HO_15.out) hb);have n3_:=aK (below_step (by repeat (first|(with_reducible first|exact HB.out|apply below_alloc|apply pw_below_drewN|apply below_drew1)|exact HB.out)) hb);clear HO_1;clear HO_2;clear HO_15;clear HB;have HO_1:=n0_;have HO_2:=n1_;have HO_15:=n2_;have HB:=n3_;clear n0_ n1_ n2_ n3_;(try clear hb);(try clear hb2);(try clear hk);(try clear hi))|((with_reducible refine gate_callee (f:=32) rfl ?_);refine goesL_ (some 96) rfl rfl Tryz.func32 (by kernel_rfl) rfl #[.slice A1 l1.length c1,.slice A2 l2.length c2,.agg #[.int .i64 t530,.int .i64 t531]] rfl (by (try simp only [List.map_toArray,List.map_cons,List.map_nil]);first|done|rfl|(simp only [List.length_drop,List.length_take];rfl)) ?_;(with_reducible refine (pen_Along.calls _ _ l1 _ _ l2 t530 t531 t532 t533 _ ?side1 ?side2 ?side3 ?side4 A54.out).mono ?_);(case side1=>repeat (first|exact (Kd.V_reads' HO_1.out).2.2|(with_reducible refine Kd.C_alloc ?_ _)|(with_reducible refine Kd.C_drewN ?_ _)|(with_reducible refine Kd.C_drew ?_)));(case side2=>exact (Kd.V_reads' HO_1.out).2.1);(case side3=>repeat (first|exact (Kd.V_reads' HO_2.out).2.2|(with_reducible refine Kd.C_alloc ?_ _)|(with_reducible refine Kd.C_drewN ?_ _)|(with_reducible refine Kd.C_drew ?_)));(case side4=>exact (Kd.V_reads' HO_2.out).2.1);rintro e w70 ⟨rfl,hb⟩;refine ⟨_,rfl,?_⟩;have n0_:=aK (Kd.V_below (by (with_reducible repeat (first|apply Kd.V_alloc|apply Kd.V_drewN|apply Kd.V_drew));exact HO_1.out) hb);have n1_:=aK (Kd.V_below (by (with_reducible repeat (first|apply Kd.V_alloc|apply Kd.V_drewN|apply Kd.V_drew));exact HO_2.out) hb);have n2_:=aK (Kd.R_below (by (with_reducible repeat (first|apply Kd.R_alloc|apply Kd.R_drewN|apply Kd.R_drew));exact HO_15.out) hb);have n3_:=aK (below_step (by repeat (first|(with_reducible first|exact HB.out|apply below_alloc|apply pw_below_drewN|apply below_drew1)|exact HB.out)) hb);clear HO_1;clear HO_2;clear HO_15;clear HB;have HO_1:=n0_;have HO_2:=n1_;have HO_15:=n2_;have HB:=n3_;clear n0_ n1_ n2_ n3_;(try clear hb);(try clear hb2);(try clear hk);(try clear hi)))
              go_ret
              exact ⟨by first|rfl|(simp [errW_none,errW_some] <;> rfl)|(simp [*,errW_none,errW_some] <;> rfl),by repeat (first|(with_reducible first|exact HB.out|apply below_alloc|apply pw_below_drewN|apply below_drew1)|exact HB.out)⟩
            ·rw [if_neg c52] at H
             have c52b0:decide (x87_4<12)=false:=decide_eq_false c52
             clear c52
             have H':=aK H
             clear H
             go_wp2
             go_roundg k4
             case measure=>have:=HJ3.out;have:=HK2.out;have:=HK3.out;have:=HK4.out;omega
             case rel=>exact ⟨(wrap64 (x36_2+1)),(by first|rfl|(simp;done)|(simp [*];done)),H',⟨by have:=HJ3.out;have:=HK2.out;have:=HK3.out;have:=HK4.out;omega⟩,⟨by (with_reducible repeat (first|apply Kd.V_alloc|apply Kd.V_drewN|apply Kd.V_drew));exact Kd.V_mono HO_1.out (fun _ hk=>hk.1)⟩,⟨by (with_reducible repeat (first|apply Kd.V_alloc|apply Kd.V_drewN|apply Kd.V_drew));exact Kd.V_mono HO_2.out (fun _ hk=>hk.1)⟩,⟨by repeat (first|(with_reducible first|exact HB.out|apply below_alloc|apply pw_below_drewN|apply below_drew1)|exact HB.out)⟩⟩
      ·rw [if_neg c22] at H
       have c22b0:decide (x36_2<4)=false:=decide_eq_false c22
       clear c22
       replace H:=Option.bind_eq_some_iff.mp H
       obtain ⟨t512,A710,H⟩:=H
       replace H:(some t512)=some r:=H
       have A71:=aK A710
       clear A710
       obtain rfl:=Option.some.inj H
       go_wp2_with ((with_reducible refine gate_callee (f:=9) rfl ?_);refine goesL_ (some 115) rfl rfl Tryz.func9 (by kernel_rfl) rfl #[] rfl (by (try simp only [List.map_toArray,List.map_cons,List.map_nil]);first|done|rfl|(simp only [List.length_drop,List.length_take];rfl)) ?_;(with_reducible refine (fleuronlaw19_awake.calls  t512 _ A71.out).mono ?_);rintro e w72 ⟨rfl,hb⟩;refine ⟨_,rfl,?_⟩;have n0_:=aK (Kd.V_below (by (with_reducible repeat (first|apply Kd.V_alloc|apply Kd.V_drewN|apply Kd.V_drew));exact HO_1.out) hb);have n1_:=aK (Kd.V_below (by (with_reducible repeat (first|apply Kd.V_alloc|apply Kd.V_drewN|apply Kd.V_drew));exact HO_2.out) hb);have n2_:=aK (below_step (by repeat (first|(with_reducible first|exact HB.out|apply below_alloc|apply pw_below_drewN|apply below_drew1)|exact HB.out)) hb);clear HO_1;clear HO_2;clear HB;have HO_1:=n0_;have HO_2:=n1_;have HB:=n2_;clear n0_ n1_ n2_;(try clear hb);(try clear hb2);(try clear hk);(try clear hi))
       go_ret
       exact ⟨by first|rfl|(simp [errW_none,errW_some] <;> rfl)|(simp [*,errW_none,errW_some] <;> rfl),by repeat (first|(with_reducible first|exact HB.out|apply below_alloc|apply pw_below_drewN|apply below_drew1)|exact HB.out)⟩
end Go.Proofs.YtckjlckhjcbddaaGreat.PG3
