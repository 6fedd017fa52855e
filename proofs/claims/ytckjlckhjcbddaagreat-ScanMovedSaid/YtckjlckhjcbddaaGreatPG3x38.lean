import Derived.Test.YtckjlckhjcbddaaGreatPG3x0
import Derived.Test.YtckjlckhjcbddaaGreatPG3x12
import Derived.Test.YtckjlckhjcbddaaGreatPG3x13
import Derived.Test.YtckjlckhjcbddaaGreatPG3x14
import Derived.Test.YtckjlckhjcbddaaGreatPG3x15
import Derived.Test.YtckjlckhjcbddaaGreatPG3x16
import Derived.Test.YtckjlckhjcbddaaGreatPG3x19
import Derived.Test.YtckjlckhjcbddaaGreatPG3x21
namespace Go.Proofs.YtckjlckhjcbddaaGreat.PG3
open Go.RowKit Go.Proofs.YtckjlckhjcbddaaGreatW.PrintWords Go.Proofs.YtckjlckhjcbddaaGreatW.PrintLast Go.Proofs.YtckjlckhjcbddaaGreatW.PrintMore
attribute [local go_sem] max2_int min2_int max_two min_two max_three min_three max_four min_four
set_option linter.unusedVariables false
set_option linter.unusedSimpArgs false
mutual
def fleuronlaw19_ScanMoved.j0:Nat→List (List (S47))→Bool→Bool→Int→Int→Int→Option (Bool)
 | 0,_,_,_,_,_,_=>none
 | k+1,x0,x1,x30,x472000,x472001,x472002=>if x30=true then ((fleuronlaw19_awake.f).bind fun t474=>(some t474)) else ((scan_Row.f k x0 x1 40 (wrap64 (Int.tmod (IntKind.u64.wrap (x472002)) 40))).bind fun bt475=>(fleuronlaw19_ScanMoved.l0 k x0 x1 (wrap64 (Int.tmod (IntKind.u64.wrap (x472000)) 20)) (wrap64 (Int.tmod (IntKind.u64.wrap (x472001)) 20)) (wrap64 (Int.tmod (IntKind.u64.wrap (x472002)) 40)) bt475.1 bt475.2 ([]:List (List (S47))) (x0.length:Int) 0))
def fleuronlaw19_ScanMoved.l0:Nat→List (List (S47))→Bool→Int→Int→Int→List (S23)→Int→List (List (S47))→Int→Int→Option (Bool)
 | 0,_,_,_,_,_,_,_,_,_,_=>none
 | k+1,x0,x1,x7,x8,x9,x10,x11,x12,x55,x56=>if x56<x55 then (if 0≤(wrap64 ((wrap64 ((x0.length:Int)-1))-x56)) then (if (wrap64 ((wrap64 ((x0.length:Int)-1))-x56))<(x0.length:Int) then (fleuronlaw19_ScanMoved.l1 k x0 x1 x7 x8 x9 x10 x11 x12 (rd_L2 x0 (wrap64 ((wrap64 ((x0.length:Int)-1))-x56))) ([]:List (S47)) x55 x56 ((rd_L2 x0 (wrap64 ((wrap64 ((x0.length:Int)-1))-x56))).length:Int) 0) else (none)) else (none)) else (if x11=0 then ((scan_Rows.f k x0).bind fun bt488=>(if bt488.2.2=4 then (if (x10.length:Int)>0 then (fleuronlaw19_ScanMoved.j3 k x1 x7 x8 x9 x10 x12 true) else (if bt488.2.2=0 then (if x9<bt488.1 then (fleuronlaw19_ScanMoved.j3 k x1 x7 x8 x9 x10 x12 false) else (if x9>bt488.2.1 then (fleuronlaw19_ScanMoved.j3 k x1 x7 x8 x9 x10 x12 false) else (fleuronlaw19_ScanMoved.j3 k x1 x7 x8 x9 x10 x12 false))) else (fleuronlaw19_ScanMoved.j3 k x1 x7 x8 x9 x10 x12 (bt488.2.2 != 4)))) else (if bt488.2.2=0 then (if x9<bt488.1 then (if (x10.length:Int)>0 then (fleuronlaw19_ScanMoved.j3 k x1 x7 x8 x9 x10 x12 true) else (fleuronlaw19_ScanMoved.j3 k x1 x7 x8 x9 x10 x12 false)) else (if x9>bt488.2.1 then (if (x10.length:Int)>0 then (fleuronlaw19_ScanMoved.j3 k x1 x7 x8 x9 x10 x12 true) else (fleuronlaw19_ScanMoved.j3 k x1 x7 x8 x9 x10 x12 false)) else (fleuronlaw19_ScanMoved.j3 k x1 x7 x8 x9 x10 x12 false))) else (fleuronlaw19_ScanMoved.j3 k x1 x7 x8 x9 x10 x12 (bt488.2.2 != 4))))) else (some false))
def fleuronlaw19_ScanMoved.l1:Nat→List (List (S47))→Bool→Int→Int→Int→List (S23)→Int→List (List (S47))→List (S47)→List (S47)→Int→Int→Int→Int→Option (Bool)
 | 0,_,_,_,_,_,_,_,_,_,_,_,_,_,_=>none
 | k+1,x0,x1,x7,x8,x9,x10,x11,x12,x14,x15,x55,x56,x68,x69=>if x69<x68 then (if (x14.length:Int)=0 then (none) else (if 0≤(Int.tmod (wrap64 (x69+1)) (x14.length:Int)) then (if (Int.tmod (wrap64 (x69+1)) (x14.length:Int))<(x14.length:Int) then (if x15.length<8796093022208 then (fleuronlaw19_ScanMoved.l1 k x0 x1 x7 x8 x9 x10 x11 x12 x14 (x15++[(⟨wrap64 (((rd_T47 x14 (Int.tmod (wrap64 (x69+1)) (x14.length:Int))).f0)+(wrap64 (x7*65536))),wrap64 (((rd_T47 x14 (Int.tmod (wrap64 (x69+1)) (x14.length:Int))).f1)+(wrap64 (x8*65536)))⟩:S47)]) x55 x56 x68 (wrap64 (x69+1))) else (none)) else (none)) else (none))) else (if x12.length<5864062014805 then (fleuronlaw19_ScanMoved.l0 k x0 x1 x7 x8 x9 x10 x11 (x12++[x15]) x55 (wrap64 (x56+1))) else (none))
def fleuronlaw19_ScanMoved.j3:Nat→Bool→Int→Int→Int→List (S23)→List (List (S47))→Bool→Option (Bool)
 | 0,_,_,_,_,_,_,_=>none
 | k+1,x1,x7,x8,x9,x10,x12,x142=>if x142=true then (some false) else ((fleuronref17_Some.f k x12).bind fun t492=>(if t492=true then ((scan_Row.f k x12 x1 60 (wrap64 (x9+x8))).bind fun bt494=>(fleuronlaw19_ScanMoved.l2 k x7 x10 bt494.1 bt494.2 0)) else ((fleuronlaw19_awake.f).bind fun t493=>(some t493))))
def fleuronlaw19_ScanMoved.l2:Nat→Int→List (S23)→List (S23)→Int→Int→Option (Bool)
 | 0,_,_,_,_,_=>none
 | k+1,x7,x10,x20,x21,x156=>if x156<40 then ((fleuronlaw19_in.f k x10 x156).bind fun t500=>((fleuronlaw19_in.f k x20 (wrap64 (x156+x7))).bind fun t501=>(if (t500 != t501)=true then (some false) else (fleuronlaw19_ScanMoved.l2 k x7 x10 x20 x21 (wrap64 (x156+1)))))) else (if x21=0 then ((fleuronref16_All.f k ([]:List (S47))).bind fun t498=>(if t498=true then ((fleuronlaw19_awake.f).bind fun t499=>(some t499)) else (some false))) else (some false))
end
def fleuronlaw19_ScanMoved.f (k:Nat) (l0:List (List (S47))) (a1:Bool) (a2_0:Int) (a2_1:Int) (a2_2:Int):Option (Bool):=(fleuronlaw19_few.f k 200 l0).bind fun t472=>(if t472=true then ((fleuronref17_Some.f k l0).bind fun t473=>(fleuronlaw19_ScanMoved.j0 k l0 a1 (!t473) a2_0 a2_1 a2_2)) else (fleuronlaw19_ScanMoved.j0 k l0 a1 true a2_0 a2_1 a2_2))
theorem fleuronlaw19_ScanMoved.mono_l : ∀ k,(∀ y0 y1 y2 y3 y4 y5,LeO (fleuronlaw19_ScanMoved.j0 k y0 y1 y2 y3 y4 y5) (fleuronlaw19_ScanMoved.j0 (k+1) y0 y1 y2 y3 y4 y5))∧(∀ y0 y1 y2 y3 y4 y5 y6 y7 y8 y9,LeO (fleuronlaw19_ScanMoved.l0 k y0 y1 y2 y3 y4 y5 y6 y7 y8 y9) (fleuronlaw19_ScanMoved.l0 (k+1) y0 y1 y2 y3 y4 y5 y6 y7 y8 y9))∧(∀ y0 y1 y2 y3 y4 y5 y6 y7 y8 y9 y10 y11 y12 y13,LeO (fleuronlaw19_ScanMoved.l1 k y0 y1 y2 y3 y4 y5 y6 y7 y8 y9 y10 y11 y12 y13) (fleuronlaw19_ScanMoved.l1 (k+1) y0 y1 y2 y3 y4 y5 y6 y7 y8 y9 y10 y11 y12 y13))∧(∀ y0 y1 y2 y3 y4 y5 y6,LeO (fleuronlaw19_ScanMoved.j3 k y0 y1 y2 y3 y4 y5 y6) (fleuronlaw19_ScanMoved.j3 (k+1) y0 y1 y2 y3 y4 y5 y6))∧(∀ y0 y1 y2 y3 y4,LeO (fleuronlaw19_ScanMoved.l2 k y0 y1 y2 y3 y4) (fleuronlaw19_ScanMoved.l2 (k+1) y0 y1 y2 y3 y4))
 | 0=>⟨fun _ _ _ _ _ _ r h=>by simp [fleuronlaw19_ScanMoved.j0] at h,fun _ _ _ _ _ _ _ _ _ _ r h=>by simp [fleuronlaw19_ScanMoved.l0] at h,fun _ _ _ _ _ _ _ _ _ _ _ _ _ _ r h=>by simp [fleuronlaw19_ScanMoved.l1] at h,fun _ _ _ _ _ _ _ r h=>by simp [fleuronlaw19_ScanMoved.j3] at h,fun _ _ _ _ _ r h=>by simp [fleuronlaw19_ScanMoved.l2] at h⟩
 | k+1=>by
  obtain ⟨ih0,ih1,ih2,ih3,ih4⟩:=fleuronlaw19_ScanMoved.mono_l k
  refine ⟨?_,?_,?_,?_,?_⟩
  ·intro y0 y1 y2 y3 y4 y5
   unfold fleuronlaw19_ScanMoved.j0
   repeat' first
   | (with_reducible exact ih0 _ _ _ _ _ _)
   | (with_reducible exact ih1 _ _ _ _ _ _ _ _ _ _)
   | (with_reducible exact ih2 _ _ _ _ _ _ _ _ _ _ _ _ _ _)
   | (with_reducible exact ih3 _ _ _ _ _ _ _)
   | (with_reducible exact ih4 _ _ _ _ _)
   | (with_reducible exact fleuronlaw19_few.mono _ _ _)
   | (with_reducible exact fleuronlaw19_in.mono _ _ _)
   | (with_reducible exact fleuronref16_All.mono _ _)
   | (with_reducible exact fleuronref17_Some.mono _ _)
   | (with_reducible exact scan_Row.mono _ _ _ _ _)
   | (with_reducible exact scan_Rows.mono _ _)
   | (with_reducible exact LeO.refl _)
   | (with_reducible exact LeO.none _)
   | (with_reducible refine LeO.ite ?_ ?_)
   | (with_reducible refine LeO.bind ?_ (fun _=>?_))
   | exact ih0 _ _ _ _ _ _
   | exact ih1 _ _ _ _ _ _ _ _ _ _
   | exact ih2 _ _ _ _ _ _ _ _ _ _ _ _ _ _
   | exact ih3 _ _ _ _ _ _ _
   | exact ih4 _ _ _ _ _
   | exact fleuronlaw19_few.mono _ _ _
   | exact fleuronlaw19_in.mono _ _ _
   | exact fleuronref16_All.mono _ _
   | exact fleuronref17_Some.mono _ _
   | exact scan_Row.mono _ _ _ _ _
   | exact scan_Rows.mono _ _
   | exact LeO.none _
   | refine LeO.ite ?_ ?_
   | refine LeO.bind ?_ (fun _=>?_)
  ·intro y0 y1 y2 y3 y4 y5 y6 y7 y8 y9
   unfold fleuronlaw19_ScanMoved.l0
   repeat' first
   | (with_reducible exact ih0 _ _ _ _ _ _)
   | (with_reducible exact ih1 _ _ _ _ _ _ _ _ _ _)
   | (with_reducible exact ih2 _ _ _ _ _ _ _ _ _ _ _ _ _ _)
   | (with_reducible exact ih3 _ _ _ _ _ _ _)
   | (with_reducible exact ih4 _ _ _ _ _)
   | (with_reducible exact fleuronlaw19_few.mono _ _ _)
   | (with_reducible exact fleuronlaw19_in.mono _ _ _)
   | (with_reducible exact fleuronref16_All.mono _ _)
   | (with_reducible exact fleuronref17_Some.mono _ _)
   | (with_reducible exact scan_Row.mono _ _ _ _ _)
   | (with_reducible exact scan_Rows.mono _ _)
   | (with_reducible exact LeO.refl _)
   | (with_reducible exact LeO.none _)
   | (with_reducible refine LeO.ite ?_ ?_)
   | (with_reducible refine LeO.bind ?_ (fun _=>?_))
   | exact ih0 _ _ _ _ _ _
   | exact ih1 _ _ _ _ _ _ _ _ _ _
   | exact ih2 _ _ _ _ _ _ _ _ _ _ _ _ _ _
   | exact ih3 _ _ _ _ _ _ _
   | exact ih4 _ _ _ _ _
   | exact fleuronlaw19_few.mono _ _ _
   | exact fleuronlaw19_in.mono _ _ _
   | exact fleuronref16_All.mono _ _
   | exact fleuronref17_Some.mono _ _
   | exact scan_Row.mono _ _ _ _ _
   | exact scan_Rows.mono _ _
   | exact LeO.none _
   | refine LeO.ite ?_ ?_
   | refine LeO.bind ?_ (fun _=>?_)
  ·intro y0 y1 y2 y3 y4 y5 y6 y7 y8 y9 y10 y11 y12 y13
   unfold fleuronlaw19_ScanMoved.l1
   repeat' first
   | (with_reducible exact ih0 _ _ _ _ _ _)
   | (with_reducible exact ih1 _ _ _ _ _ _ _ _ _ _)
   | (with_reducible exact ih2 _ _ _ _ _ _ _ _ _ _ _ _ _ _)
   | (with_reducible exact ih3 _ _ _ _ _ _ _)
   | (with_reducible exact ih4 _ _ _ _ _)
   | (with_reducible exact fleuronlaw19_few.mono _ _ _)
   | (with_reducible exact fleuronlaw19_in.mono _ _ _)
   | (with_reducible exact fleuronref16_All.mono _ _)
   | (with_reducible exact fleuronref17_Some.mono _ _)
   | (with_reducible exact scan_Row.mono _ _ _ _ _)
   | (with_reducible exact scan_Rows.mono _ _)
   | (with_reducible exact LeO.refl _)
   | (with_reducible exact LeO.none _)
   | (with_reducible refine LeO.ite ?_ ?_)
   | (with_reducible refine LeO.bind ?_ (fun _=>?_))
   | exact ih0 _ _ _ _ _ _
   | exact ih1 _ _ _ _ _ _ _ _ _ _
   | exact ih2 _ _ _ _ _ _ _ _ _ _ _ _ _ _
   | exact ih3 _ _ _ _ _ _ _
   | exact ih4 _ _ _ _ _
   | exact fleuronlaw19_few.mono _ _ _
   | exact fleuronlaw19_in.mono _ _ _
   | exact fleuronref16_All.mono _ _
   | exact fleuronref17_Some.mono _ _
   | exact scan_Row.mono _ _ _ _ _
   | exact scan_Rows.mono _ _
   | exact LeO.none _
   | refine LeO.ite ?_ ?_
   | refine LeO.bind ?_ (fun _=>?_)
  ·intro y0 y1 y2 y3 y4 y5 y6
   unfold fleuronlaw19_ScanMoved.j3
   repeat' first
   | (with_reducible exact ih0 _ _ _ _ _ _)
   | (with_reducible exact ih1 _ _ _ _ _ _ _ _ _ _)
   | (with_reducible exact ih2 _ _ _ _ _ _ _ _ _ _ _ _ _ _)
   | (with_reducible exact ih3 _ _ _ _ _ _ _)
   | (with_reducible exact ih4 _ _ _ _ _)
   | (with_reducible exact fleuronlaw19_few.mono _ _ _)
   | (with_reducible exact fleuronlaw19_in.mono _ _ _)
   | (with_reducible exact fleuronref16_All.mono _ _)
   | (with_reducible exact fleuronref17_Some.mono _ _)
   | (with_reducible exact scan_Row.mono _ _ _ _ _)
   | (with_reducible exact scan_Rows.mono _ _)
   | (with_reducible exact LeO.refl _)
   | (with_reducible exact LeO.none _)
   | (with_reducible refine LeO.ite ?_ ?_)
   | (with_reducible refine LeO.bind ?_ (fun _=>?_))
   | exact ih0 _ _ _ _ _ _
   | exact ih1 _ _ _ _ _ _ _ _ _ _
   | exact ih2 _ _ _ _ _ _ _ _ _ _ _ _ _ _
   | exact ih3 _ _ _ _ _ _ _
   | exact ih4 _ _ _ _ _
   | exact fleuronlaw19_few.mono _ _ _
   | exact fleuronlaw19_in.mono _ _ _
   | exact fleuronref16_All.mono _ _
   | exact fleuronref17_Some.mono _ _
   | exact scan_Row.mono _ _ _ _ _
   | exact scan_Rows.mono _ _
   | exact LeO.none _
   | refine LeO.ite ?_ ?_
   | refine LeO.bind ?_ (fun _=>?_)
  ·intro y0 y1 y2 y3 y4
   unfold fleuronlaw19_ScanMoved.l2
   repeat' first
   | (with_reducible exact ih0 _ _ _ _ _ _)
   | (with_reducible exact ih1 _ _ _ _ _ _ _ _ _ _)
   | (with_reducible exact ih2 _ _ _ _ _ _ _ _ _ _ _ _ _ _)
   | (with_reducible exact ih3 _ _ _ _ _ _ _)
   | (with_reducible exact ih4 _ _ _ _ _)
   | (with_reducible exact fleuronlaw19_few.mono _ _ _)
   | (with_reducible exact fleuronlaw19_in.mono _ _ _)
   | (with_reducible exact fleuronref16_All.mono _ _)
   | (with_reducible exact fleuronref17_Some.mono _ _)
   | (with_reducible exact scan_Row.mono _ _ _ _ _)
   | (with_reducible exact scan_Rows.mono _ _)
   | (with_reducible exact LeO.refl _)
   | (with_reducible exact LeO.none _)
   | (with_reducible refine LeO.ite ?_ ?_)
   | (with_reducible refine LeO.bind ?_ (fun _=>?_))
   | exact ih0 _ _ _ _ _ _
   | exact ih1 _ _ _ _ _ _ _ _ _ _
   | exact ih2 _ _ _ _ _ _ _ _ _ _ _ _ _ _
   | exact ih3 _ _ _ _ _ _ _
   | exact ih4 _ _ _ _ _
   | exact fleuronlaw19_few.mono _ _ _
   | exact fleuronlaw19_in.mono _ _ _
   | exact fleuronref16_All.mono _ _
   | exact fleuronref17_Some.mono _ _
   | exact scan_Row.mono _ _ _ _ _
   | exact scan_Rows.mono _ _
   | exact LeO.none _
   | refine LeO.ite ?_ ?_
   | refine LeO.bind ?_ (fun _=>?_)
theorem fleuronlaw19_ScanMoved.mono : ∀ a0 a1 a2 a3 a4 k,LeO (fleuronlaw19_ScanMoved.f k a0 a1 a2 a3 a4) (fleuronlaw19_ScanMoved.f (k+1) a0 a1 a2 a3 a4):=by
 intro a0 a1 a2 a3 a4 k
 obtain ⟨ih0,ih1,ih2,ih3,ih4⟩:=fleuronlaw19_ScanMoved.mono_l k
 unfold fleuronlaw19_ScanMoved.f
 repeat' first
   | (with_reducible exact ih0 _ _ _ _ _ _)
   | (with_reducible exact ih1 _ _ _ _ _ _ _ _ _ _)
   | (with_reducible exact ih2 _ _ _ _ _ _ _ _ _ _ _ _ _ _)
   | (with_reducible exact ih3 _ _ _ _ _ _ _)
   | (with_reducible exact ih4 _ _ _ _ _)
   | (with_reducible exact fleuronlaw19_few.mono _ _ _)
   | (with_reducible exact fleuronlaw19_in.mono _ _ _)
   | (with_reducible exact fleuronref16_All.mono _ _)
   | (with_reducible exact fleuronref17_Some.mono _ _)
   | (with_reducible exact scan_Row.mono _ _ _ _ _)
   | (with_reducible exact scan_Rows.mono _ _)
   | (with_reducible exact LeO.refl _)
   | (with_reducible exact LeO.none _)
   | (with_reducible refine LeO.ite ?_ ?_)
   | (with_reducible refine LeO.bind ?_ (fun _=>?_))
   | exact ih0 _ _ _ _ _ _
   | exact ih1 _ _ _ _ _ _ _ _ _ _
   | exact ih2 _ _ _ _ _ _ _ _ _ _ _ _ _ _
   | exact ih3 _ _ _ _ _ _ _
   | exact ih4 _ _ _ _ _
   | exact fleuronlaw19_few.mono _ _ _
   | exact fleuronlaw19_in.mono _ _ _
   | exact fleuronref16_All.mono _ _
   | exact fleuronref17_Some.mono _ _
   | exact scan_Row.mono _ _ _ _ _
   | exact scan_Rows.mono _ _
   | exact LeO.none _
   | refine LeO.ite ?_ ?_
   | refine LeO.bind ?_ (fun _=>?_)
set_option maxHeartbeats 8000000 in
set_option maxRecDepth 100000 in
theorem fleuronlaw19_ScanMoved.calls (k:Nat) (A0:Option Addr) (c0:Nat) (l0:List (List (S47))) (a1:Bool) (a2_0:Int) (a2_1:Int) (a2_2:Int) (r:Bool) (w:World) (hr0:Kd.C (Kd.slice 47 k47) w A0 l0.length l0) (hc0:l0.length≤c0) (h:fleuronlaw19_ScanMoved.f k l0 a1 a2_0 a2_1 a2_2=some r) :
  Calls Tryz.prog 6 #[.slice A0 l0.length c0,.bool a1,.agg #[.int .i64 a2_0,.int .i64 a2_1,.int .i64 a2_2]] w fun e w'=>e = .returned (.bool r)∧Below w.heap.size w w':=by
 have hu43:=Tryz.underlying43
 have hu47:=Tryz.underlying47
 have hu23:=Tryz.underlying23
 have HR0:=aK hr0
 have HC0:=aK hc0
 clear hr0 hc0
 have HB:=aK (Below.refl w.heap.size w)
 have H:((fleuronlaw19_few.f k 200 l0).bind fun t472=>(if t472=true then ((fleuronref17_Some.f k l0).bind fun t473=>(fleuronlaw19_ScanMoved.j0 k l0 a1 (!t473) a2_0 a2_1 a2_2)) else (fleuronlaw19_ScanMoved.j0 k l0 a1 true a2_0 a2_1 a2_2)))=some r:=h
 clear h
 have HC4:=aK H
 clear H
 go_enter Tryz.func6,Tryz.ntmps6
 go_upto_region 1 with ((with_reducible refine gate_dst (N:=5) rfl ?_);refine box_event ?hg (N:=5) ?hd (cs:=#[.int .i64 a2_0,.int .i64 a2_1,.int .i64 a2_2]) (t:=43) ?hr ?_;(case hd=>rfl);(case hg=>rfl);(case hr=>first|(go_simp;done)|(go_simp;rfl));intro gb471 hg w5 hbox hb;have n0_:=aK (below_step (by repeat (first|(with_reducible first|exact HB.out|apply below_alloc|apply pw_below_drewN|apply below_drew1)|exact HB.out)) hb);have n1_:=aK (hbox);have n2_:=aK ((by rw [hg];exact (below_size (by repeat (first|(with_reducible first|exact HB.out|apply below_alloc|apply pw_below_drewN|apply below_drew1)|exact HB.out))):w.heap.size≤gb471));have n3_:=n2_;clear HB;have HB:=n0_;have BK471:=n1_;have GW471:=n2_;have GE471:=n3_;clear n0_ n1_ n2_ n3_;clear hb hbox hg)
 repeat (go_quiet (fail);go_upto_region 1 with (fail))
 (try simp only [Act.put,lS])
 go_cut [30] (fun v30 wc=>∃ (kq:Nat) (x30_3:Bool),v30 = .bool x30_3∧Aside0 (fleuronlaw19_ScanMoved.j0 kq l0 a1 x30_3 a2_0 a2_1 a2_2=some r)∧Aside0 (kq≤k)∧Aside0 (wc.heap[gb471]?=some (.cells #[.int .i64 a2_0,.int .i64 a2_1,.int .i64 a2_2] 43 (0,0)))∧Aside0 (Below w.heap.size w wc))
 case first =>
  have H:=HC4.out
  clear HC4
  replace H:=Option.bind_eq_some_iff.mp H
  obtain ⟨t472,A60,H⟩:=H
  replace H:(if t472=true then ((fleuronref17_Some.f k l0).bind fun t473=>(fleuronlaw19_ScanMoved.j0 k l0 a1 (!t473) a2_0 a2_1 a2_2)) else (fleuronlaw19_ScanMoved.j0 k l0 a1 true a2_0 a2_1 a2_2))=some r:=H
  have A6:=aK A60
  clear A60
  by_cases c7:t472=true
  ·subst c7
   have H1:((fleuronref17_Some.f k l0).bind fun t473=>(fleuronlaw19_ScanMoved.j0 k l0 a1 (!t473) a2_0 a2_1 a2_2))=some r:=by rw [if_pos rfl] at H;exact H
   clear H
   have H:=H1
   clear H1
   replace H:=Option.bind_eq_some_iff.mp H
   obtain ⟨t473,A80,H⟩:=H
   replace H:(fleuronlaw19_ScanMoved.j0 k l0 a1 (!t473) a2_0 a2_1 a2_2)=some r:=H
   have A8:=aK A80
   clear A80
   have H':=aK H
   clear H
   go_wp2_with (first|(go_at_call 8;(with_reducible refine (fleuronlaw19_few.calls k 200 _ _ l0 true _ ?side1 ?side2 A6.out).mono ?_);(case side1=>repeat (first|exact (Kd.C_below HR0.out HB.out)|(with_reducible refine Kd.C_alloc ?_ _)|(with_reducible refine Kd.C_drewN ?_ _)|(with_reducible refine Kd.C_drew ?_)));(case side2=>exact HC0.out);rintro e w' ⟨rfl,⟨nd,rfl⟩⟩;(try first|exact ⟨rfl,_,World.drewN_drewN _ _ _⟩|exact ⟨rfl,_,Eq.trans (World.drewN_drewN _ _ _) (congrArg (World.drewN _) (Nat.add_assoc _ _ _))⟩))|(go_at_call 27;(with_reducible refine (fleuronref17_Some.calls k _ _ l0 t473 _ ?side1 ?side2 A8.out).mono ?_);(case side1=>repeat (first|exact (Kd.C_below HR0.out (by repeat (first|(with_reducible first|exact HB.out|apply below_alloc|apply pw_below_drewN|apply below_drew1|refine below_set ?_ GE471.out)|exact HB.out)))|(with_reducible refine Kd.C_alloc ?_ _)|(with_reducible refine Kd.C_drewN ?_ _)|(with_reducible refine Kd.C_drew ?_)));(case side2=>exact HC0.out);rintro e w9 ⟨rfl,hb⟩;have n0_:=aK (blk_below (g:=gb471) (o:=.cells #[.int .i64 a2_0,.int .i64 a2_1,.int .i64 a2_2] 43 (0,0)) (by (with_reducible repeat (first|refine blk_drewN ?_ _|refine blk_drew ?_|refine blk_alloc ?_ _));exact BK471.out) hb);have n1_:=aK (below_step (by repeat (first|(with_reducible first|exact HB.out|apply below_alloc|apply pw_below_drewN|apply below_drew1|refine below_set ?_ GE471.out)|exact HB.out)) hb);clear BK471;clear HB;have BK471:=n0_;have HB:=n1_;clear n0_ n1_;(try clear hb);(try clear hb2);(try clear hk);(try clear hi)))
   repeat (go_quiet (fail);try go_wp2_with (fail))
   go_meet
   case rel=>exact ⟨_,(!t473),(by first|rfl|(simp;done)|(simp [*];done)),H',⟨by first|omega|exact Nat.le_refl _⟩,⟨by (with_reducible repeat (first|refine blk_drewN ?_ _|refine blk_drew ?_|refine blk_alloc ?_ _));exact BK471.out⟩,⟨by repeat (first|(with_reducible first|exact HB.out|apply below_alloc|apply pw_below_drewN|apply below_drew1|refine below_set ?_ GE471.out)|exact HB.out)⟩⟩
  ·replace c7:=Bool.eq_false_iff.mpr c7
   subst c7
   have H1:(fleuronlaw19_ScanMoved.j0 k l0 a1 true a2_0 a2_1 a2_2)=some r:=by rw [if_neg (show ¬ (false=true) by decide)] at H;exact H
   clear H
   have H:=H1
   clear H1
   have H':=aK H
   clear H
   go_wp2_with (go_at_call 8;(with_reducible refine (fleuronlaw19_few.calls k 200 _ _ l0 false _ ?side1 ?side2 A6.out).mono ?_);(case side1=>repeat (first|exact (Kd.C_below HR0.out HB.out)|(with_reducible refine Kd.C_alloc ?_ _)|(with_reducible refine Kd.C_drewN ?_ _)|(with_reducible refine Kd.C_drew ?_)));(case side2=>exact HC0.out);rintro e w' ⟨rfl,⟨nd,rfl⟩⟩;(try first|exact ⟨rfl,_,World.drewN_drewN _ _ _⟩|exact ⟨rfl,_,Eq.trans (World.drewN_drewN _ _ _) (congrArg (World.drewN _) (Nat.add_assoc _ _ _))⟩))
   repeat (go_quiet (fail);try go_wp2_with (fail))
   go_meet
   case rel=>exact ⟨_,(true),(by first|rfl|(simp;done)|(simp [*];done)),H',⟨by first|omega|exact Nat.le_refl _⟩,⟨by (with_reducible repeat (first|refine blk_drewN ?_ _|refine blk_drew ?_|refine blk_alloc ?_ _));exact BK471.out⟩,⟨by repeat (first|(with_reducible first|exact HB.out|apply below_alloc|apply pw_below_drewN|apply below_drew1|refine below_set ?_ GE471.out)|exact HB.out)⟩⟩
 case rest =>
  clear HC4
  try clear p2
  try clear c6
  try clear c7
  obtain ⟨kq,x30_3,rfl,HA,HJ3,BK471,HB⟩:=hcut
  cases kq with
  | zero=>exact absurd HA.out (by simp [fleuronlaw19_ScanMoved.j0])
  | succ kj3 =>
   have H:=HA.out
   clear HA
   simp only [fleuronlaw19_ScanMoved.j0] at H
   by_cases c10:x30_3=true
   ·subst c10
    have H1:((fleuronlaw19_awake.f).bind fun t474=>(some t474))=some r:=by rw [if_pos rfl] at H;exact H
    clear H
    have H:=H1
    clear H1
    replace H:=Option.bind_eq_some_iff.mp H
    obtain ⟨t474,A110,H⟩:=H
    replace H:(some t474)=some r:=H
    have A11:=aK A110
    clear A110
    obtain rfl:=Option.some.inj H
    go_wp2_with (go_at_call 9;(with_reducible refine (fleuronlaw19_awake.calls  t474 _ A11.out).mono ?_);rintro e w12 ⟨rfl,hb⟩;have n0_:=aK (blk_below (g:=gb471) (o:=.cells #[.int .i64 a2_0,.int .i64 a2_1,.int .i64 a2_2] 43 (0,0)) (by (with_reducible repeat (first|refine blk_drewN ?_ _|refine blk_drew ?_|refine blk_alloc ?_ _));exact BK471.out) hb);have n1_:=aK (below_step (by repeat (first|(with_reducible first|exact HB.out|apply below_alloc|apply pw_below_drewN|apply below_drew1|refine below_set ?_ GE471.out)|exact HB.out)) hb);clear BK471;clear HB;have BK471:=n0_;have HB:=n1_;clear n0_ n1_;(try clear hb);(try clear hb2);(try clear hk);(try clear hi))
    repeat (go_quiet (fail);try go_wp2_with (fail))
    go_ret
    exact ⟨by first|rfl|(simp [errW_none,errW_some] <;> rfl)|(simp [*,errW_none,errW_some] <;> rfl),by repeat (first|(with_reducible first|exact HB.out|apply below_alloc|apply pw_below_drewN|apply below_drew1|refine below_set ?_ GE471.out)|exact HB.out)⟩
   ·replace c10:=Bool.eq_false_iff.mpr c10
    subst c10
    have H1:((scan_Row.f kj3 l0 a1 40 (wrap64 (Int.tmod (IntKind.u64.wrap (a2_2)) 40))).bind fun bt475=>(fleuronlaw19_ScanMoved.l0 kj3 l0 a1 (wrap64 (Int.tmod (IntKind.u64.wrap (a2_0)) 20)) (wrap64 (Int.tmod (IntKind.u64.wrap (a2_1)) 20)) (wrap64 (Int.tmod (IntKind.u64.wrap (a2_2)) 40)) bt475.1 bt475.2 ([]:List (List (S47))) (l0.length:Int) 0))=some r:=by rw [if_neg (show ¬ (false=true) by decide)] at H;exact H
    clear H
    have H:=H1
    clear H1
    replace H:=Option.bind_eq_some_iff.mp H
    obtain ⟨⟨t475,t476⟩,A130,H⟩:=H
    replace H:(fleuronlaw19_ScanMoved.l0 kj3 l0 a1 (wrap64 (Int.tmod (IntKind.u64.wrap (a2_0)) 20)) (wrap64 (Int.tmod (IntKind.u64.wrap (a2_1)) 20)) (wrap64 (Int.tmod (IntKind.u64.wrap (a2_2)) 40)) t475 t476 ([]:List (List (S47))) (l0.length:Int) 0)=some r:=H
    have A13:=aK A130
    clear A130
    have H':=aK H
    clear H
    have hcz14_0:wc.cell? ⟨gb471,0,none⟩=some (.int .i64 a2_0):=(blk_cell BK471.out 0).trans rfl
    have hcz14_1:wc.cell? ⟨gb471,1,none⟩=some (.int .i64 a2_1):=(blk_cell BK471.out 1).trans rfl
    have hcz14_2:wc.cell? ⟨gb471,2,none⟩=some (.int .i64 a2_2):=(blk_cell BK471.out 2).trans rfl
    have hfz14_0:=blk_frozen BK471.out 0
    have hfz14_1:=blk_frozen BK471.out 1
    have hfz14_2:=blk_frozen BK471.out 2
    go_wp2_with (fail)
    repeat (go_quiet (fail);try go_wp2_with (go_at_call 10;(with_reducible refine (scan_Row.calls kj3 _ _ l0 a1 40 (wrap64 (Int.tmod (IntKind.u64.wrap (a2_2)) 40)) t475 t476 _ ?side1 ?side2 A13.out).mono ?_);(case side1=>repeat (first|exact (Kd.C_below HR0.out HB.out)|(with_reducible refine Kd.C_alloc ?_ _)|(with_reducible refine Kd.C_drewN ?_ _)|(with_reducible refine Kd.C_drew ?_)));(case side2=>exact HC0.out);rintro e w15 ⟨v477,rfl,ho0,hb⟩;have n0_:=aK (Kd.R_lower ho0 (below_size (by repeat (first|(with_reducible first|exact HB.out|apply below_alloc|apply pw_below_drewN|apply below_drew1|refine below_set ?_ GE471.out)|exact HB.out))));have n1_:=aK (blk_below (g:=gb471) (o:=.cells #[.int .i64 a2_0,.int .i64 a2_1,.int .i64 a2_2] 43 (0,0)) (by (with_reducible repeat (first|refine blk_drewN ?_ _|refine blk_drew ?_|refine blk_alloc ?_ _));exact BK471.out) hb);have n2_:=aK (below_step (by repeat (first|(with_reducible first|exact HB.out|apply below_alloc|apply pw_below_drewN|apply below_drew1|refine below_set ?_ GE471.out)|exact HB.out)) hb);clear BK471;clear HB;have HO478:=n0_;have BK471:=n1_;have HB:=n2_;clear n0_ n1_ n2_;(try clear hb);(try clear hb2);(try clear hk);(try clear hi);(try clear ho0)))
    go_loopg [12,56] kj3 (fun kq v12 v56 w'=>∃ (x12_2:List (List (S47))) (x56_2:Int),v56 = .int .i64 x56_2∧Aside0 (fleuronlaw19_ScanMoved.l0 kq l0 a1 (wrap64 (Int.tmod (IntKind.u64.wrap (a2_0)) 20)) (wrap64 (Int.tmod (IntKind.u64.wrap (a2_1)) 20)) (wrap64 (Int.tmod (IntKind.u64.wrap (a2_2)) 40)) t475 t476 x12_2 (l0.length:Int) x56_2=some r)∧Aside0 (kq≤kj3)∧Aside0 (Kd.R k23 23 w' w.heap.size (fun _=>True) v477 t475)∧Aside0 (Kd.S (Kd.slice 47 k47) 34 w' w.heap.size (fun _=>True) v12 x12_2)∧Aside0 (w'.heap[gb471]?=some (.cells #[.int .i64 a2_0,.int .i64 a2_1,.int .i64 a2_2] 43 (0,0)))∧Aside0 (Below w.heap.size w w'))
    case atStart=>exact ⟨(([]:List (List (S47)))),(0),(by first|rfl|(simp;done)|(simp [*];done)),H',⟨Nat.le_refl _⟩,⟨by (with_reducible repeat (first|apply Kd.R_alloc|apply Kd.R_drewN|apply Kd.R_drew));exact HO478.out⟩,⟨by first|exact Kd.S_nil _ _ _ _ _|exact Kd.N_nil _ _ _ _ _|exact Kd.V_nil _ _ _ _ _|exact Kd.Q_nil _ _ _ _ _|exact Kd.R_nil _ _ _ _ _⟩,⟨by (with_reducible repeat (first|refine blk_drewN ?_ _|refine blk_drew ?_|refine blk_alloc ?_ _));exact BK471.out⟩,⟨by repeat (first|(with_reducible first|exact HB.out|apply below_alloc|apply pw_below_drewN|apply below_drew1|refine below_set ?_ GE471.out)|exact HB.out)⟩⟩
    case round =>
     clear H'
     try clear c1
     try clear p2
     try clear c6
     try clear p6
     try clear c7
     try clear c10
     try clear hcz14_0
     try clear hcz14_1
     try clear hcz14_2
     try clear hfz14_0
     try clear hfz14_1
     try clear hfz14_2
     try clear p2
     obtain ⟨x12_2,x56_2,rfl,HA,HK2,HO_10,HO_12,BK471,HB⟩:=hrel
     cases gk with
     | zero=>exact absurd HA.out (by simp [fleuronlaw19_ScanMoved.l0])
     | succ k2 =>
      have H:=HA.out
      clear HA
      simp only [fleuronlaw19_ScanMoved.l0] at H
      by_cases c16:x56_2<(l0.length:Int)
      ·rw [if_pos c16] at H
       have c16b0:decide (x56_2<(l0.length:Int))=true:=decide_eq_true c16
       clear c16
       obtain ⟨ji17,hji17⟩ : ∃ j_:Int,(wrap64 ((wrap64 ((l0.length:Int)-1))-x56_2))=j_:=⟨_,rfl⟩
       replace H:(if 0≤(ji17) then (if (ji17)<(l0.length:Int) then (fleuronlaw19_ScanMoved.l1 k2 l0 a1 (wrap64 (Int.tmod (IntKind.u64.wrap (a2_0)) 20)) (wrap64 (Int.tmod (IntKind.u64.wrap (a2_1)) 20)) (wrap64 (Int.tmod (IntKind.u64.wrap (a2_2)) 40)) t475 t476 x12_2 (rd_L2 l0 (ji17)) ([]:List (S47)) (l0.length:Int) x56_2 ((rd_L2 l0 (ji17)).length:Int) 0) else (none)) else (none))=some r:=by first|(rw [hji17] at H;exact H)|(simp only [hji17] at H ⊢;exact H)
       have hji17w:(IntKind.i64.wrap ((wrap64 ((l0.length:Int)-1))-x56_2))=ji17:=(i64_w _).trans hji17
       by_cases c18:0≤(ji17)
       ·rw [if_pos c18] at H
        have c18b0:decide (0≤(ji17))=true:=decide_eq_true c18
        clear c18
        by_cases c19:(ji17)<(l0.length:Int)
        ·rw [if_pos c19] at H
         have c19b0:decide ((ji17)<(l0.length:Int))=true:=decide_eq_true c19
         clear c19
         have H':=aK H
         clear H
         have p479:0≤((ji17):Int):=of_decide_eq_true (by first|(with_reducible assumption)|assumption)
         have q479:(ji17)<(l0.length:Int):=of_decide_eq_true (by first|(with_reducible assumption)|assumption)
         obtain ⟨ad479,A479_0,c479_0,e479,hx479_0,hl479_0,hi479_0⟩:=at_L2 HR0.out (ji17) p479 q479
         cases e479
         replace hx479_0:=(HB.out.cell (World.block_lt_of_cell? w _ hx479_0)).trans hx479_0
         have HR479_0:=aK hi479_0
         have HC479_0:=aK hl479_0
         clear hi479_0 hl479_0
         replace p479:=eq_true p479
         replace q479:=eq_true q479
         go_wp2
         repeat (go_quiet (fail);try go_wp2)
         go_loopg [15,69] k2 (fun kq v15 v69 w'=>∃ (x15_3:List (S47)) (x69_3:Int),v69 = .int .i64 x69_3∧Aside0 (fleuronlaw19_ScanMoved.l1 kq l0 a1 (wrap64 (Int.tmod (IntKind.u64.wrap (a2_0)) 20)) (wrap64 (Int.tmod (IntKind.u64.wrap (a2_1)) 20)) (wrap64 (Int.tmod (IntKind.u64.wrap (a2_2)) 40)) t475 t476 x12_2 (rd_L2 l0 (ji17)) x15_3 (l0.length:Int) x56_2 ((rd_L2 l0 (ji17)).length:Int) x69_3=some r)∧Aside0 (kq≤k2)∧Aside0 (Kd.R k23 23 w' w.heap.size (fun _=>True) v477 t475)∧Aside0 (Kd.S (Kd.slice 47 k47) 34 w' w.heap.size (fun k_=>some k_≠(v15:Value).ownBlock) u12 x12_2)∧Aside0 (Kd.R k47 47 w' w.heap.size (fun _=>True) v15 x15_3)∧Aside0 (w'.heap[gb471]?=some (.cells #[.int .i64 a2_0,.int .i64 a2_1,.int .i64 a2_2] 43 (0,0)))∧Aside0 (Below w.heap.size w w'))
         case atStart=>exact ⟨(([]:List (S47))),(0),(by first|rfl|(simp;done)|(simp [*];done)),H',⟨Nat.le_refl _⟩,⟨by (with_reducible repeat (first|apply Kd.R_alloc|apply Kd.R_drewN|apply Kd.R_drew));exact HO_10.out⟩,⟨by (with_reducible repeat (first|apply Kd.S_alloc|apply Kd.S_drewN|apply Kd.S_drew));exact Kd.S_mono HO_12.out (fun _ hk=>(by simp [Value.ownBlock]))⟩,⟨by first|exact Kd.R_nil _ _ _ _ _|exact Kd.N_nil _ _ _ _ _|exact Kd.V_nil _ _ _ _ _|exact Kd.Q_nil _ _ _ _ _|exact Kd.S_nil _ _ _ _ _⟩,⟨by (with_reducible repeat (first|refine blk_drewN ?_ _|refine blk_drew ?_|refine blk_alloc ?_ _));exact BK471.out⟩,⟨by repeat (first|(with_reducible first|exact HB.out|apply below_alloc|apply pw_below_drewN|apply below_drew1|refine below_set ?_ GE471.out)|exact HB.out)⟩⟩
         case round =>
          clear H'
          try clear c1
          try clear p2
          try clear c4
          try clear p4
          try clear q4
          try clear hx4
          try clear c6
          try clear p6
          try clear c7
          try clear c10
          try clear c16
          try clear c16b0
          try clear c18
          try clear c18b0
          try clear c19
          try clear c19b0
          try clear hcz14_0
          try clear hcz14_1
          try clear hcz14_2
          try clear hfz14_0
          try clear hfz14_1
          try clear hfz14_2
          try clear hx479_0
          try clear p2
          try clear p479
          try clear p6
          try clear q479
          obtain ⟨x15_3,x69_3,rfl,HA,HK3,HO_10,HO_12,HO_15,BK471,HB⟩:=hrel
          cases gk with
          | zero=>exact absurd HA.out (by simp [fleuronlaw19_ScanMoved.l1])
          | succ k3 =>
           have H:=HA.out
           clear HA
           simp only [fleuronlaw19_ScanMoved.l1] at H
           by_cases c20:x69_3<((rd_L2 l0 (ji17)).length:Int)
           ·rw [if_pos c20] at H
            have c20b0:decide (x69_3<((rd_L2 l0 (ji17)).length:Int))=true:=decide_eq_true c20
            clear c20
            by_cases c21:((rd_L2 l0 (ji17)).length:Int)=0
            ·rw [if_pos c21] at H
             exact absurd H (by simp)
            ·rw [if_neg c21] at H
             have c21b0:(((rd_L2 l0 (ji17)).length:Int) == 0)=false:=beq_eq_false_iff_ne.mpr c21
             have c21b1:(((rd_L2 l0 (ji17)).length:Int) != 0)=true:=bne_iff_ne.mpr c21
             have c21b2 : ¬ ((rd_L2 l0 (ji17))=[]):=fun h_=>c21 (by rw [h_];rfl)
             obtain ⟨ji22,hji22⟩ : ∃ j_:Int,(Int.tmod (wrap64 (x69_3+1)) ((rd_L2 l0 (ji17)).length:Int))=j_:=⟨_,rfl⟩
             replace H:(if 0≤(ji22) then (if (ji22)<((rd_L2 l0 (ji17)).length:Int) then (if x15_3.length<8796093022208 then (fleuronlaw19_ScanMoved.l1 k3 l0 a1 (wrap64 (Int.tmod (IntKind.u64.wrap (a2_0)) 20)) (wrap64 (Int.tmod (IntKind.u64.wrap (a2_1)) 20)) (wrap64 (Int.tmod (IntKind.u64.wrap (a2_2)) 40)) t475 t476 x12_2 (rd_L2 l0 (ji17)) (x15_3++[(⟨wrap64 (((rd_T47 (rd_L2 l0 (ji17)) (ji22)).f0)+(wrap64 ((wrap64 (Int.tmod (IntKind.u64.wrap (a2_0)) 20))*65536))),wrap64 (((rd_T47 (rd_L2 l0 (ji17)) (ji22)).f1)+(wrap64 ((wrap64 (Int.tmod (IntKind.u64.wrap (a2_1)) 20))*65536)))⟩:S47)]) (l0.length:Int) x56_2 ((rd_L2 l0 (ji17)).length:Int) (wrap64 (x69_3+1))) else (none)) else (none)) else (none))=some r:=by first|(rw [hji22] at H;exact H)|(simp only [hji22] at H ⊢;exact H)
             by_cases c23:0≤(ji22)
             ·rw [if_pos c23] at H
              have c23b0:decide (0≤(ji22))=true:=decide_eq_true c23
              clear c23
              by_cases c24:(ji22)<((rd_L2 l0 (ji17)).length:Int)
              ·rw [if_pos c24] at H
               have c24b0:decide ((ji22)<((rd_L2 l0 (ji17)).length:Int))=true:=decide_eq_true c24
               clear c24
               by_cases c25:x15_3.length<8796093022208
               ·rw [if_pos c25] at H
                have LMc25:=aK c25
                clear c25
                obtain ⟨y482,hy482⟩ : ∃ y_:List (S47),y_=(x15_3++[(⟨wrap64 (((rd_T47 (rd_L2 l0 (ji17)) (ji22)).f0)+(wrap64 ((wrap64 (Int.tmod (IntKind.u64.wrap (a2_0)) 20))*65536))),wrap64 (((rd_T47 (rd_L2 l0 (ji17)) (ji22)).f1)+(wrap64 ((wrap64 (Int.tmod (IntKind.u64.wrap (a2_1)) 20))*65536)))⟩:S47)]):=⟨_,rfl⟩
                replace H:(fleuronlaw19_ScanMoved.l1 k3 l0 a1 (wrap64 (Int.tmod (IntKind.u64.wrap (a2_0)) 20)) (wrap64 (Int.tmod (IntKind.u64.wrap (a2_1)) 20)) (wrap64 (Int.tmod (IntKind.u64.wrap (a2_2)) 40)) t475 t476 x12_2 (rd_L2 l0 (ji17)) y482 (l0.length:Int) x56_2 ((rd_L2 l0 (ji17)).length:Int) (wrap64 (x69_3+1)))=some r:=by first|(rw [hy482];with_reducible exact H)|(have H2_:=(Option.bind_some _ _).symm.trans H;rw [hy482];with_reducible exact H2_)|(have H2_:=(Option.bind_some _ _).symm.trans H;with_reducible exact H2_)|with_reducible exact H|(rw [hy482];exact H)|exact H
                have Ny482:=aK hy482
                clear hy482
                have H':=aK H
                clear H
                have p480:0≤((ji22):Int):=of_decide_eq_true (by first|(with_reducible assumption)|assumption)
                have q480:(ji22)<((rd_L2 l0 (ji17)).length:Int):=of_decide_eq_true (by first|(with_reducible assumption)|assumption)
                obtain ⟨ad480,e480,hx480_0,hx480_1⟩:=at_T47 HR479_0.out (ji22) p480 q480
                cases e480
                replace hx480_0:=(HB.out.cell (World.block_lt_of_cell? w _ hx480_0)).trans hx480_0
                replace hx480_1:=(HB.out.cell (World.block_lt_of_cell? w _ hx480_1)).trans hx480_1
                replace p480:=eq_true p480
                replace q480:=eq_true q480
                go_wp2_with (first|((with_reducible refine gate_dst (N:=17) rfl ?_);refine box_event ?hg (N:=17) ?hd (cs:=#[.int .i64 0,.int .i64 0]) (t:=47) ?hr ?_;(case hd=>rfl);(case hg=>rfl);(case hr=>first|(go_simp;done)|(go_simp;rfl));intro gb481 hg w26 hbox hb;have n0_:=aK (Kd.R_below (by (with_reducible repeat (first|apply Kd.R_alloc|apply Kd.R_drewN|apply Kd.R_drew));exact HO_10.out) hb);have n1_:=aK (Kd.S_below (Kd.S_elderB (by (with_reducible repeat (first|apply Kd.S_alloc|apply Kd.S_drewN|apply Kd.S_drew));exact HO_12.out) gb481 (Nat.le_of_eq hg.symm)) hb);have n2_:=aK (Kd.R_below (Kd.R_elderB (by (with_reducible repeat (first|apply Kd.R_alloc|apply Kd.R_drewN|apply Kd.R_drew));exact HO_15.out) gb481 (Nat.le_of_eq hg.symm)) hb);have n3_:=aK (blk_below (g:=gb471) (o:=.cells #[.int .i64 a2_0,.int .i64 a2_1,.int .i64 a2_2] 43 (0,0)) (by (with_reducible repeat (first|refine blk_drewN ?_ _|refine blk_drew ?_|refine blk_alloc ?_ _));exact BK471.out) hb);have n4_:=aK (below_step (by repeat (first|(with_reducible first|exact HB.out|apply below_alloc|apply pw_below_drewN|apply below_drew1|refine below_set ?_ GE471.out)|exact HB.out)) hb);have n5_:=aK (hbox);have n6_:=aK ((by rw [hg];exact (below_size (by repeat (first|(with_reducible first|exact HB.out|apply below_alloc|apply pw_below_drewN|apply below_drew1|refine below_set ?_ GE471.out)|exact HB.out))):w.heap.size≤gb481));have n7_:=n6_;have n8_:=aK ((by rw [hg];exact Nat.ne_of_lt (blk_lt (g:=gb471) (o:=.cells #[.int .i64 a2_0,.int .i64 a2_1,.int .i64 a2_2] 43 (0,0)) (by (with_reducible repeat (first|refine blk_drewN ?_ _|refine blk_drew ?_|refine blk_alloc ?_ _));exact BK471.out)):gb471≠gb481));have n9_:=aK (Ne.symm n8_.out);clear HO_10;clear HO_12;clear HO_15;clear BK471;clear HB;have HO_10:=n0_;have HO_12:=n1_;have HO_15:=n2_;have BK471:=n3_;have HB:=n4_;have BK481:=n5_;have GW481:=n6_;have GE481:=n7_;have NB471_481:=n8_;have NB481_471:=n9_;clear n0_ n1_ n2_ n3_ n4_ n5_ n6_ n7_ n8_ n9_;clear hb hbox hg;have hnb27:=NB481_471.out;have hnc27:=NB471_481.out;have hcz28_0:w26.cell? ⟨gb481,0,none⟩=some (.int .i64 0):=(blk_cell BK481.out 0).trans rfl;have hcz28_1:w26.cell? ⟨gb481,1,none⟩=some (.int .i64 0):=(blk_cell BK481.out 1).trans rfl;have hfz28_0:=blk_frozen BK481.out 0;have hfz28_1:=blk_frozen BK481.out 1)|((with_reducible refine gate_builtin (b:=.append) (xs:=#[.tmp 80,.tmp 92]) rfl ?_);at_builtin;refine Kd.R_append k47 (w0:=w) w.heap.size rfl (.tmp 80) (.tmp 92) 34 47 (.agg #[(.int .i64 0),(.int .i64 0)]) 16 rfl Tryz.underlying34 info47 rfl (by decide) (by omega) u15 x15_3 (⟨wrap64 (((rd_T47 (rd_L2 l0 (ji17)) (ji22)).f0)+(wrap64 ((wrap64 (Int.tmod (IntKind.u64.wrap (a2_0)) 20))*65536))),wrap64 (((rd_T47 (rd_L2 l0 (ji17)) (ji22)).f1)+(wrap64 ((wrap64 (Int.tmod (IntKind.u64.wrap (a2_1)) 20))*65536)))⟩:S47) [.int .i64 (wrap64 (((rd_T47 (rd_L2 l0 (ji17)) (ji22)).f0)+(wrap64 ((wrap64 (Int.tmod (IntKind.u64.wrap (a2_0)) 20))*65536)))),.int .i64 (wrap64 (((rd_T47 (rd_L2 l0 (ji17)) (ji22)).f1)+(wrap64 ((wrap64 (Int.tmod (IntKind.u64.wrap (a2_1)) 20))*65536))))] (fun k_=>k_≠gb481) (fun _=>False) rfl (by first|(go_simp;done)|(go_simp;rfl)) ?aP (fun _ hk=>hk.elim) ?aF ?aO ?aB ?aS ?aL ?_;(case aP=>exact k47_mkM _ _ _ (⟨wrap64 (((rd_T47 (rd_L2 l0 (ji17)) (ji22)).f0)+(wrap64 ((wrap64 (Int.tmod (IntKind.u64.wrap (a2_0)) 20))*65536))),wrap64 (((rd_T47 (rd_L2 l0 (ji17)) (ji22)).f1)+(wrap64 ((wrap64 (Int.tmod (IntKind.u64.wrap (a2_1)) 20))*65536)))⟩:S47));(case aB=>exact (by repeat (first|(with_reducible first|exact HB.out|apply below_alloc|apply pw_below_drewN|apply below_drew1|refine below_set ?_ GE471.out|refine below_set ?_ GE481.out)|exact HB.out)));(case aF=>exact (fun k_ hk=>Kd.freshB (g:=gb481) (o:=.cells #[.int .i64 ((rd_T47 (rd_L2 l0 (ji17)) (ji22)).f0),.int .i64 ((rd_T47 (rd_L2 l0 (ji17)) (ji22)).f1)] 47 (0,0)) (by (with_reducible repeat (first|refine blk_drewN ?_ _|refine blk_drew ?_|refine blk_alloc ?_ _));refine blk_put (cs:=#[.int .i64 ((rd_T47 (rd_L2 l0 (ji17)) (ji22)).f0),.int .i64 0]) ?_ 1 _ rfl;(with_reducible repeat (first|refine blk_drewN ?_ _|refine blk_drew ?_|refine blk_alloc ?_ _));refine blk_put (cs:=#[.int .i64 0,.int .i64 0]) ?_ 0 _ rfl;(with_reducible repeat (first|refine blk_drewN ?_ _|refine blk_drew ?_|refine blk_alloc ?_ _));exact BK481.out) k_ hk));(case aO=>exact (by (with_reducible repeat (first|apply Kd.R_alloc|apply Kd.R_drewN|apply Kd.R_drew));exact Kd.R_mono (Kd.R_far (p:=⟨gb481,1,none⟩) (Kd.R_far (p:=⟨gb481,0,none⟩) (Kd.R_mono HO_15.out (fun k_ hk=>(⟨hk,hk.2⟩:_∧k_≠gb481))) (fun _ hk=>hk.2) (.int .i64 ((rd_T47 (rd_L2 l0 (ji17)) (ji22)).f0))) (fun _ hk=>hk.2) (.int .i64 ((rd_T47 (rd_L2 l0 (ji17)) (ji22)).f1))) (fun _ hk=>hk.1.2)));(case aS=>exact (below_size (by repeat (first|(with_reducible first|exact HB.out|apply below_alloc|apply pw_below_drewN|apply below_drew1|refine below_set ?_ GE471.out|refine below_set ?_ GE481.out)|exact HB.out))));(case aL=>have:=LMc25.out;omega);intro v483 w29 ho hb hg hat;rw [← Ny482.out] at ho;have n0_:=aK (Kd.R_over' (by (with_reducible repeat (first|apply Kd.R_alloc|apply Kd.R_drewN|apply Kd.R_drew));exact (Kd.R_mono (Kd.R_far (p:=⟨gb481,1,none⟩) (Kd.R_far (p:=⟨gb481,0,none⟩) (Kd.R_types HO_10.out BK481.out (by decide)) (fun _ hk=>hk.2) (.int .i64 ((rd_T47 (rd_L2 l0 (ji17)) (ji22)).f0))) (fun _ hk=>hk.2) (.int .i64 ((rd_T47 (rd_L2 l0 (ji17)) (ji22)).f1))) (fun _ h_=>h_.1))) (Kd.R_typed (by (with_reducible repeat (first|apply Kd.R_alloc|apply Kd.R_drewN|apply Kd.R_drew));exact (Kd.R_mono (Kd.R_far (p:=⟨gb481,1,none⟩) (Kd.R_far (p:=⟨gb481,0,none⟩) (Kd.R_mono HO_15.out (fun k_ hk=>(⟨hk,hk.2⟩:_∧k_≠gb481))) (fun _ hk=>hk.2) (.int .i64 ((rd_T47 (rd_L2 l0 (ji17)) (ji22)).f0))) (fun _ hk=>hk.2) (.int .i64 ((rd_T47 (rd_L2 l0 (ji17)) (ji22)).f1))) (fun _ h_=>h_.1)))) (by decide) hg);have n1_:=aK (Kd.S_after (ok:=(fun k_=>k_≠gb481)) (by (with_reducible repeat (first|apply Kd.S_alloc|apply Kd.S_drewN|apply Kd.S_drew));exact Kd.S_mono (Kd.S_far (p:=⟨gb481,1,none⟩) (Kd.S_far (p:=⟨gb481,0,none⟩) (Kd.S_mono HO_12.out (fun k_ hk=>(⟨hk,hk.2⟩:_∧k_≠gb481))) (fun _ hk=>hk.2) (.int .i64 ((rd_T47 (rd_L2 l0 (ji17)) (ji22)).f0))) (fun _ hk=>hk.2) (.int .i64 ((rd_T47 (rd_L2 l0 (ji17)) (ji22)).f1))) (fun _ hk=>⟨hk.1.2,hk.1.1⟩)) hg hat);have n2_:=aK (blk_grown (g:=gb471) (o:=.cells #[.int .i64 a2_0,.int .i64 a2_1,.int .i64 a2_2] 43 (0,0)) (by (with_reducible repeat (first|refine blk_drewN ?_ _|refine blk_drew ?_|refine blk_alloc ?_ _));refine blk_far ?_ NB471_481.out _;(with_reducible repeat (first|refine blk_drewN ?_ _|refine blk_drew ?_|refine blk_alloc ?_ _));refine blk_far ?_ NB471_481.out _;(with_reducible repeat (first|refine blk_drewN ?_ _|refine blk_drew ?_|refine blk_alloc ?_ _));exact BK471.out) hg (Kd.R_ne HO_15.out BK471.out (by decide)));have n3_:=aK (blk_grown (g:=gb481) (o:=.cells #[.int .i64 ((rd_T47 (rd_L2 l0 (ji17)) (ji22)).f0),.int .i64 ((rd_T47 (rd_L2 l0 (ji17)) (ji22)).f1)] 47 (0,0)) (by (with_reducible repeat (first|refine blk_drewN ?_ _|refine blk_drew ?_|refine blk_alloc ?_ _));refine blk_put (cs:=#[.int .i64 ((rd_T47 (rd_L2 l0 (ji17)) (ji22)).f0),.int .i64 0]) ?_ 1 _ rfl;(with_reducible repeat (first|refine blk_drewN ?_ _|refine blk_drew ?_|refine blk_alloc ?_ _));refine blk_put (cs:=#[.int .i64 0,.int .i64 0]) ?_ 0 _ rfl;(with_reducible repeat (first|refine blk_drewN ?_ _|refine blk_drew ?_|refine blk_alloc ?_ _));exact BK481.out) hg (Kd.R_away HO_15.out (fun _ hk=>hk.2)));have n4_:=aK (hb);have n5_:=aK (ho);clear HO_10;clear HO_12;clear BK471;clear BK481;clear HB;clear HO_15;have HO_10:=n0_;have HO_12:=n1_;have BK471:=n2_;have BK481:=n3_;have HB:=n4_;have HO484:=n5_;clear n0_ n1_ n2_ n3_ n4_ n5_;clear ho hb hg hat))
                repeat (go_quiet (fail);try go_wp2_with (fail))
                go_roundg k3
                case measure=>have:=HJ3.out;have:=HK2.out;have:=HK3.out;omega
                case rel=>exact ⟨(y482),(wrap64 (x69_3+1)),(by first|rfl|(simp;done)|(simp [*];done)),H',⟨by have:=HJ3.out;have:=HK2.out;have:=HK3.out;omega⟩,⟨by (with_reducible repeat (first|apply Kd.R_alloc|apply Kd.R_drewN|apply Kd.R_drew));exact HO_10.out⟩,⟨by (with_reducible repeat (first|apply Kd.S_alloc|apply Kd.S_drewN|apply Kd.S_drew));exact Kd.S_mono HO_12.out (fun _ hk=>hk.2)⟩,⟨by (with_reducible repeat (first|apply Kd.R_alloc|apply Kd.R_drewN|apply Kd.R_drew));exact Kd.R_mono HO484.out (fun _ hk=>trivial)⟩,⟨by (with_reducible repeat (first|refine blk_drewN ?_ _|refine blk_drew ?_|refine blk_alloc ?_ _));exact BK471.out⟩,⟨by repeat (first|(with_reducible first|exact HB.out|apply below_alloc|apply pw_below_drewN|apply below_drew1|refine below_set ?_ GE471.out|refine below_set ?_ GE481.out)|exact HB.out)⟩⟩
               ·rw [if_neg c25] at H
                exact absurd H (by simp)
              ·rw [if_neg c24] at H
               exact absurd H (by simp)
             ·rw [if_neg c23] at H
              exact absurd H (by simp)
           ·rw [if_neg c20] at H
            have c20b0:decide (x69_3<((rd_L2 l0 (ji17)).length:Int))=false:=decide_eq_false c20
            clear c20
            by_cases c30:x12_2.length<5864062014805
            ·rw [if_pos c30] at H
             have LMc30:=aK c30
             clear c30
             obtain ⟨y485,hy485⟩ : ∃ y_:List (List (S47)),y_=(x12_2++[x15_3]):=⟨_,rfl⟩
             replace H:(fleuronlaw19_ScanMoved.l0 k3 l0 a1 (wrap64 (Int.tmod (IntKind.u64.wrap (a2_0)) 20)) (wrap64 (Int.tmod (IntKind.u64.wrap (a2_1)) 20)) (wrap64 (Int.tmod (IntKind.u64.wrap (a2_2)) 40)) t475 t476 y485 (l0.length:Int) (wrap64 (x56_2+1)))=some r:=by first|(rw [hy485];with_reducible exact H)|(have H2_:=(Option.bind_some _ _).symm.trans H;rw [hy485];with_reducible exact H2_)|(have H2_:=(Option.bind_some _ _).symm.trans H;with_reducible exact H2_)|with_reducible exact H|(rw [hy485];exact H)|exact H
             have Ny485:=aK hy485
             clear hy485
             have H':=aK H
             clear H
             obtain ⟨Ao32,co32,eo32⟩:=Kd.R_slice HO_15.out
             subst eo32
             go_wp2_with ((with_reducible refine gate_builtin (b:=.append) (xs:=#[.tmp 95,.tmp 97]) rfl ?_);at_builtin;refine Kd.S_append (Kd.slice 47 k47) (w0:=w) w.heap.size rfl (.tmp 95) (.tmp 97) 22 34 (.slice none 0 0) 24 rfl Tryz.underlying22 info34 rfl (by decide) (by omega) u12 x12_2 x15_3 [.slice Ao32 x15_3.length co32] (fun _=>True) (fun k_=>some k_=(.slice Ao32 x15_3.length co32:Value).ownBlock) rfl rfl ?aP (fun k_ hk_=>((Kd.R_mono (ok':=fun k_=>((fun _=>True)) k_∧some k_≠(u12:Value).ownBlock) (Kd.R_apart' (HO_15.out) (Kd.S_typed HO_12.out) (by decide)) (fun k_ hk=>⟨trivial,hk.2⟩))).1 k_ hk_.symm) ?aF ?aO ?aB ?aS ?aL ?_;(case aP=>exact Kd.M_row (Kd.R_mono (Kd.R_tight rfl (Kd.R_mono (ok':=fun k_=>((fun _=>True)) k_∧some k_≠(u12:Value).ownBlock) (Kd.R_apart' (HO_15.out) (Kd.S_typed HO_12.out) (by decide)) (fun k_ hk=>⟨trivial,hk.2⟩))) (fun _ h_=>h_)));(case aB=>exact (by repeat (first|(with_reducible first|exact HB.out|apply below_alloc|apply pw_below_drewN|apply below_drew1|refine below_set ?_ GE471.out)|exact HB.out)));(case aF=>exact (fun _ _=>trivial));(case aO=>exact (by (with_reducible repeat (first|apply Kd.S_alloc|apply Kd.S_drewN|apply Kd.S_drew));exact Kd.S_mono HO_12.out (fun k_ hk=>⟨trivial,fun e_=>hk e_⟩)));(case aS=>exact (below_size (by repeat (first|(with_reducible first|exact HB.out|apply below_alloc|apply pw_below_drewN|apply below_drew1|refine below_set ?_ GE471.out)|exact HB.out))));(case aL=>have:=LMc30.out;omega);intro v486 w31 ho hb hg hat;rw [← Ny485.out] at ho;have n0_:=aK (Kd.R_over' (by (with_reducible repeat (first|apply Kd.R_alloc|apply Kd.R_drewN|apply Kd.R_drew));exact HO_10.out) (Kd.S_typed (by (with_reducible repeat (first|apply Kd.S_alloc|apply Kd.S_drewN|apply Kd.S_drew));exact HO_12.out)) (by decide) hg);have n1_:=aK (blk_grown (g:=gb471) (o:=.cells #[.int .i64 a2_0,.int .i64 a2_1,.int .i64 a2_2] 43 (0,0)) (by (with_reducible repeat (first|refine blk_drewN ?_ _|refine blk_drew ?_|refine blk_alloc ?_ _));exact BK471.out) hg (Kd.S_ne HO_12.out BK471.out (by decide)));have n2_:=aK (hb);have n3_:=aK (ho);clear HO_10;clear BK471;clear HB;clear HO_12;clear HO_15;have HO_10:=n0_;have BK471:=n1_;have HB:=n2_;have HO487:=n3_;clear n0_ n1_ n2_ n3_;clear ho hb hg hat)
             repeat (go_quiet (fail);try go_wp2_with (fail))
             go_roundg k3
             case measure=>have:=HJ3.out;have:=HK2.out;have:=HK3.out;omega
             case rel=>exact ⟨(y485),(wrap64 (x56_2+1)),(by first|rfl|(simp;done)|(simp [*];done)),H',⟨by have:=HJ3.out;have:=HK2.out;have:=HK3.out;omega⟩,⟨by (with_reducible repeat (first|apply Kd.R_alloc|apply Kd.R_drewN|apply Kd.R_drew));exact HO_10.out⟩,⟨by (with_reducible repeat (first|apply Kd.S_alloc|apply Kd.S_drewN|apply Kd.S_drew));exact HO487.out⟩,⟨by (with_reducible repeat (first|refine blk_drewN ?_ _|refine blk_drew ?_|refine blk_alloc ?_ _));exact BK471.out⟩,⟨by repeat (first|(with_reducible first|exact HB.out|apply below_alloc|apply pw_below_drewN|apply below_drew1|refine below_set ?_ GE471.out)|exact HB.out)⟩⟩
            ·rw [if_neg c30] at H
             exact absurd H (by simp)
        ·rw [if_neg c19] at H
         exact absurd H (by simp)
       ·rw [if_neg c18] at H
        exact absurd H (by simp)
      ·rw [if_neg c16] at H
       have c16b0:decide (x56_2<(l0.length:Int))=false:=decide_eq_false c16
       clear c16
       by_cases c33:t476=0
       ·rw [if_pos c33] at H
        have c33b0:(t476 == 0)=true:=beq_iff_eq.mpr c33
        have c33b1:(t476 != 0)=false:=bne_eq_false_iff_eq.mpr c33
        clear c33
        replace H:=Option.bind_eq_some_iff.mp H
        obtain ⟨⟨t488,t489,t490⟩,A340,H⟩:=H
        replace H:(if t490=4 then (if (t475.length:Int)>0 then (fleuronlaw19_ScanMoved.j3 k2 a1 (wrap64 (Int.tmod (IntKind.u64.wrap (a2_0)) 20)) (wrap64 (Int.tmod (IntKind.u64.wrap (a2_1)) 20)) (wrap64 (Int.tmod (IntKind.u64.wrap (a2_2)) 40)) t475 x12_2 true) else (if t490=0 then (if (wrap64 (Int.tmod (IntKind.u64.wrap (a2_2)) 40))<t488 then (fleuronlaw19_ScanMoved.j3 k2 a1 (wrap64 (Int.tmod (IntKind.u64.wrap (a2_0)) 20)) (wrap64 (Int.tmod (IntKind.u64.wrap (a2_1)) 20)) (wrap64 (Int.tmod (IntKind.u64.wrap (a2_2)) 40)) t475 x12_2 false) else (if (wrap64 (Int.tmod (IntKind.u64.wrap (a2_2)) 40))>t489 then (fleuronlaw19_ScanMoved.j3 k2 a1 (wrap64 (Int.tmod (IntKind.u64.wrap (a2_0)) 20)) (wrap64 (Int.tmod (IntKind.u64.wrap (a2_1)) 20)) (wrap64 (Int.tmod (IntKind.u64.wrap (a2_2)) 40)) t475 x12_2 false) else (fleuronlaw19_ScanMoved.j3 k2 a1 (wrap64 (Int.tmod (IntKind.u64.wrap (a2_0)) 20)) (wrap64 (Int.tmod (IntKind.u64.wrap (a2_1)) 20)) (wrap64 (Int.tmod (IntKind.u64.wrap (a2_2)) 40)) t475 x12_2 false))) else (fleuronlaw19_ScanMoved.j3 k2 a1 (wrap64 (Int.tmod (IntKind.u64.wrap (a2_0)) 20)) (wrap64 (Int.tmod (IntKind.u64.wrap (a2_1)) 20)) (wrap64 (Int.tmod (IntKind.u64.wrap (a2_2)) 40)) t475 x12_2 (t490 != 4)))) else (if t490=0 then (if (wrap64 (Int.tmod (IntKind.u64.wrap (a2_2)) 40))<t488 then (if (t475.length:Int)>0 then (fleuronlaw19_ScanMoved.j3 k2 a1 (wrap64 (Int.tmod (IntKind.u64.wrap (a2_0)) 20)) (wrap64 (Int.tmod (IntKind.u64.wrap (a2_1)) 20)) (wrap64 (Int.tmod (IntKind.u64.wrap (a2_2)) 40)) t475 x12_2 true) else (fleuronlaw19_ScanMoved.j3 k2 a1 (wrap64 (Int.tmod (IntKind.u64.wrap (a2_0)) 20)) (wrap64 (Int.tmod (IntKind.u64.wrap (a2_1)) 20)) (wrap64 (Int.tmod (IntKind.u64.wrap (a2_2)) 40)) t475 x12_2 false)) else (if (wrap64 (Int.tmod (IntKind.u64.wrap (a2_2)) 40))>t489 then (if (t475.length:Int)>0 then (fleuronlaw19_ScanMoved.j3 k2 a1 (wrap64 (Int.tmod (IntKind.u64.wrap (a2_0)) 20)) (wrap64 (Int.tmod (IntKind.u64.wrap (a2_1)) 20)) (wrap64 (Int.tmod (IntKind.u64.wrap (a2_2)) 40)) t475 x12_2 true) else (fleuronlaw19_ScanMoved.j3 k2 a1 (wrap64 (Int.tmod (IntKind.u64.wrap (a2_0)) 20)) (wrap64 (Int.tmod (IntKind.u64.wrap (a2_1)) 20)) (wrap64 (Int.tmod (IntKind.u64.wrap (a2_2)) 40)) t475 x12_2 false)) else (fleuronlaw19_ScanMoved.j3 k2 a1 (wrap64 (Int.tmod (IntKind.u64.wrap (a2_0)) 20)) (wrap64 (Int.tmod (IntKind.u64.wrap (a2_1)) 20)) (wrap64 (Int.tmod (IntKind.u64.wrap (a2_2)) 40)) t475 x12_2 false))) else (fleuronlaw19_ScanMoved.j3 k2 a1 (wrap64 (Int.tmod (IntKind.u64.wrap (a2_0)) 20)) (wrap64 (Int.tmod (IntKind.u64.wrap (a2_1)) 20)) (wrap64 (Int.tmod (IntKind.u64.wrap (a2_2)) 40)) t475 x12_2 (t490 != 4))))=some r:=H
        have A34:=aK A340
        clear A340
        have HC35:=aK H
        clear H
        go_upto_region 22 with (first|(go_at_call 12;(with_reducible refine (scan_Rows.calls k2 _ _ l0 t488 t489 t490 _ ?side1 ?side2 A34.out).mono ?_);(case side1=>repeat (first|exact (Kd.C_below HR0.out HB.out)|(with_reducible refine Kd.C_alloc ?_ _)|(with_reducible refine Kd.C_drewN ?_ _)|(with_reducible refine Kd.C_drew ?_)));(case side2=>exact HC0.out);rintro e w36 ⟨rfl,hb⟩;have n0_:=aK (Kd.R_below (by (with_reducible repeat (first|apply Kd.R_alloc|apply Kd.R_drewN|apply Kd.R_drew));exact HO_10.out) hb);have n1_:=aK (Kd.S_below (by (with_reducible repeat (first|apply Kd.S_alloc|apply Kd.S_drewN|apply Kd.S_drew));exact HO_12.out) hb);have n2_:=aK (blk_below (g:=gb471) (o:=.cells #[.int .i64 a2_0,.int .i64 a2_1,.int .i64 a2_2] 43 (0,0)) (by (with_reducible repeat (first|refine blk_drewN ?_ _|refine blk_drew ?_|refine blk_alloc ?_ _));exact BK471.out) hb);have n3_:=aK (below_step (by repeat (first|(with_reducible first|exact HB.out|apply below_alloc|apply pw_below_drewN|apply below_drew1|refine below_set ?_ GE471.out)|exact HB.out)) hb);clear HO_10;clear HO_12;clear BK471;clear HB;have HO_10:=n0_;have HO_12:=n1_;have BK471:=n2_;have HB:=n3_;clear n0_ n1_ n2_ n3_;(try clear hb);(try clear hb2);(try clear hk);(try clear hi))|((with_reducible refine gate_dst (N:=18) rfl ?_);refine box_event ?hg (N:=18) ?hd (cs:=#[.int .i64 0,.int .i64 0]) (t:=23) ?hr ?_;(case hd=>rfl);(case hg=>rfl);(case hr=>first|(go_simp;done)|(go_simp;rfl));intro gb491 hg w37 hbox hb;have n0_:=aK (Kd.R_below (Kd.R_elderB (by (with_reducible repeat (first|apply Kd.R_alloc|apply Kd.R_drewN|apply Kd.R_drew));exact HO_10.out) gb491 (Nat.le_of_eq hg.symm)) hb);have n1_:=aK (Kd.S_below (by (with_reducible repeat (first|apply Kd.S_alloc|apply Kd.S_drewN|apply Kd.S_drew));exact HO_12.out) hb);have n2_:=aK (blk_below (g:=gb471) (o:=.cells #[.int .i64 a2_0,.int .i64 a2_1,.int .i64 a2_2] 43 (0,0)) (by (with_reducible repeat (first|refine blk_drewN ?_ _|refine blk_drew ?_|refine blk_alloc ?_ _));exact BK471.out) hb);have n3_:=aK (below_step (by repeat (first|(with_reducible first|exact HB.out|apply below_alloc|apply pw_below_drewN|apply below_drew1|refine below_set ?_ GE471.out)|exact HB.out)) hb);have n4_:=aK (hbox);have n5_:=aK ((by rw [hg];exact (below_size (by repeat (first|(with_reducible first|exact HB.out|apply below_alloc|apply pw_below_drewN|apply below_drew1|refine below_set ?_ GE471.out)|exact HB.out))):w.heap.size≤gb491));have n6_:=n5_;have n7_:=aK ((by rw [hg];exact Nat.ne_of_lt (blk_lt (g:=gb471) (o:=.cells #[.int .i64 a2_0,.int .i64 a2_1,.int .i64 a2_2] 43 (0,0)) (by (with_reducible repeat (first|refine blk_drewN ?_ _|refine blk_drew ?_|refine blk_alloc ?_ _));exact BK471.out)):gb471≠gb491));have n8_:=aK (Ne.symm n7_.out);clear HO_10;clear HO_12;clear BK471;clear HB;have HO_10:=n0_;have HO_12:=n1_;have BK471:=n2_;have HB:=n3_;have BK491:=n4_;have GW491:=n5_;have GE491:=n6_;have NB471_491:=n7_;have NB491_471:=n8_;clear n0_ n1_ n2_ n3_ n4_ n5_ n6_ n7_ n8_;clear hb hbox hg;have hnb38:=NB491_471.out;have hnc38:=NB471_491.out;have hcz39_0:w37.cell? ⟨gb491,0,none⟩=some (.int .i64 0):=(blk_cell BK491.out 0).trans rfl;have hcz39_1:w37.cell? ⟨gb491,1,none⟩=some (.int .i64 0):=(blk_cell BK491.out 1).trans rfl;have hfz39_0:=blk_frozen BK491.out 0;have hfz39_1:=blk_frozen BK491.out 1))
        repeat (go_quiet (fail);go_upto_region 22 with (fail))
        (try simp only [Act.put,lS])
        go_cut [142] (fun v142 wc=>∃ (kq:Nat) (x142_34:Bool),v142 = .bool x142_34∧Aside0 (fleuronlaw19_ScanMoved.j3 kq a1 (wrap64 (Int.tmod (IntKind.u64.wrap (a2_0)) 20)) (wrap64 (Int.tmod (IntKind.u64.wrap (a2_1)) 20)) (wrap64 (Int.tmod (IntKind.u64.wrap (a2_2)) 40)) t475 x12_2 x142_34=some r)∧Aside0 (kq≤k2)∧Aside0 (Kd.R k23 23 wc w.heap.size (fun k_=>k_≠gb491) v477 t475)∧Aside0 (Kd.S (Kd.slice 47 k47) 34 wc w.heap.size (fun _=>True) u12 x12_2)∧Aside0 (wc.heap[gb471]?=some (.cells #[.int .i64 a2_0,.int .i64 a2_1,.int .i64 a2_2] 43 (0,0)))∧Aside0 (wc.heap[gb491]?=some (.cells #[.int .i64 t488,.int .i64 t489] 23 (0,0)))∧Aside0 (Below w.heap.size w wc))
        case first =>
         have H:=HC35.out
         clear HC35
         by_cases c40:t490=4
         ·rw [if_pos c40] at H
          have c40b0:(t490 == 4)=true:=beq_iff_eq.mpr c40
          have c40b1:(t490 != 4)=false:=bne_eq_false_iff_eq.mpr c40
          clear c40
          (first|rw [c40b0]|(simp only [i64_w,i32_w];rw [c40b0])|skip)
          by_cases c41:(t475.length:Int)>0
          ·rw [if_pos c41] at H
           have c41b0:decide (0<(t475.length:Int))=true:=decide_eq_true c41
           have c41b1:decide (0<t475.length)=true:=decide_eq_true (by omega)
           clear c41
           have H':=aK H
           clear H
           obtain ⟨Ao42,co42,eo42⟩:=Kd.R_slice HO_10.out
           subst eo42
           go_wp2
           repeat (go_quiet (fail);try go_wp2)
           go_meet
           case rel=>exact ⟨_,(true),(by first|rfl|(simp;done)|(simp [*];done)),H',⟨by have:=HJ3.out;have:=HK2.out;first|omega|exact Nat.le_refl _⟩,⟨by (with_reducible repeat (first|apply Kd.R_alloc|apply Kd.R_drewN|apply Kd.R_drew));exact Kd.R_mono (Kd.R_far (p:=⟨gb491,1,none⟩) (Kd.R_far (p:=⟨gb491,0,none⟩) (Kd.R_mono HO_10.out (fun k_ hk=>(⟨hk,hk.2⟩:_∧k_≠gb491))) (fun _ hk=>hk.2) (.int .i64 t488)) (fun _ hk=>hk.2) (.int .i64 t489)) (fun _ hk=>hk.1.2)⟩,⟨by (with_reducible repeat (first|apply Kd.S_alloc|apply Kd.S_drewN|apply Kd.S_drew));exact Kd.S_mono (Kd.S_far (p:=⟨gb491,1,none⟩) (Kd.S_far (p:=⟨gb491,0,none⟩) (Kd.S_types HO_12.out BK491.out (by decide)) (fun _ hk=>hk.2) (.int .i64 t488)) (fun _ hk=>hk.2) (.int .i64 t489)) (fun _ hk=>trivial)⟩,⟨by (with_reducible repeat (first|refine blk_drewN ?_ _|refine blk_drew ?_|refine blk_alloc ?_ _));refine blk_far ?_ NB471_491.out _;(with_reducible repeat (first|refine blk_drewN ?_ _|refine blk_drew ?_|refine blk_alloc ?_ _));refine blk_far ?_ NB471_491.out _;(with_reducible repeat (first|refine blk_drewN ?_ _|refine blk_drew ?_|refine blk_alloc ?_ _));exact BK471.out⟩,⟨by (with_reducible repeat (first|refine blk_drewN ?_ _|refine blk_drew ?_|refine blk_alloc ?_ _));refine blk_put (cs:=#[.int .i64 t488,.int .i64 0]) ?_ 1 _ rfl;(with_reducible repeat (first|refine blk_drewN ?_ _|refine blk_drew ?_|refine blk_alloc ?_ _));refine blk_put (cs:=#[.int .i64 0,.int .i64 0]) ?_ 0 _ rfl;(with_reducible repeat (first|refine blk_drewN ?_ _|refine blk_drew ?_|refine blk_alloc ?_ _));exact BK491.out⟩,⟨by repeat (first|(with_reducible first|exact HB.out|apply below_alloc|apply pw_below_drewN|apply below_drew1|refine below_set ?_ GE471.out|refine below_set ?_ GE491.out)|exact HB.out)⟩⟩
          ·rw [if_neg c41] at H
           have c41b0:decide (0<(t475.length:Int))=false:=decide_eq_false c41
           have c41b1:decide (0<t475.length)=false:=decide_eq_false (by omega)
           clear c41
           by_cases c43:t490=0
           ·rw [if_pos c43] at H
            have c43b0:(t490 == 0)=true:=beq_iff_eq.mpr c43
            have c43b1:(t490 != 0)=false:=bne_eq_false_iff_eq.mpr c43
            clear c43
            by_cases c44:(wrap64 (Int.tmod (IntKind.u64.wrap (a2_2)) 40))<t488
            ·rw [if_pos c44] at H
             have c44b0:decide ((wrap64 (Int.tmod (IntKind.u64.wrap (a2_2)) 40))<t488)=true:=decide_eq_true c44
             clear c44
             have H':=aK H
             clear H
             obtain ⟨Ao45,co45,eo45⟩:=Kd.R_slice HO_10.out
             subst eo45
             have hnb46:=NB491_471.out
             have hnc46:=NB471_491.out
             have hcz47_0:w37.cell? ⟨gb491,0,none⟩=some (.int .i64 0):=(blk_cell BK491.out 0).trans rfl
             have hcz47_1:w37.cell? ⟨gb491,1,none⟩=some (.int .i64 0):=(blk_cell BK491.out 1).trans rfl
             have hfz47_0:=blk_frozen BK491.out 0
             have hfz47_1:=blk_frozen BK491.out 1
             go_wp2
             repeat (go_quiet (fail);try go_wp2)
             go_meet
             case rel=>exact ⟨_,(false),(by first|rfl|(simp;done)|(simp [*];done)),H',⟨by have:=HJ3.out;have:=HK2.out;first|omega|exact Nat.le_refl _⟩,⟨by (with_reducible repeat (first|apply Kd.R_alloc|apply Kd.R_drewN|apply Kd.R_drew));exact Kd.R_mono (Kd.R_far (p:=⟨gb491,1,none⟩) (Kd.R_far (p:=⟨gb491,0,none⟩) (Kd.R_mono HO_10.out (fun k_ hk=>(⟨hk,hk.2⟩:_∧k_≠gb491))) (fun _ hk=>hk.2) (.int .i64 t488)) (fun _ hk=>hk.2) (.int .i64 t489)) (fun _ hk=>hk.1.2)⟩,⟨by (with_reducible repeat (first|apply Kd.S_alloc|apply Kd.S_drewN|apply Kd.S_drew));exact Kd.S_mono (Kd.S_far (p:=⟨gb491,1,none⟩) (Kd.S_far (p:=⟨gb491,0,none⟩) (Kd.S_types HO_12.out BK491.out (by decide)) (fun _ hk=>hk.2) (.int .i64 t488)) (fun _ hk=>hk.2) (.int .i64 t489)) (fun _ hk=>trivial)⟩,⟨by (with_reducible repeat (first|refine blk_drewN ?_ _|refine blk_drew ?_|refine blk_alloc ?_ _));refine blk_far ?_ NB471_491.out _;(with_reducible repeat (first|refine blk_drewN ?_ _|refine blk_drew ?_|refine blk_alloc ?_ _));refine blk_far ?_ NB471_491.out _;(with_reducible repeat (first|refine blk_drewN ?_ _|refine blk_drew ?_|refine blk_alloc ?_ _));exact BK471.out⟩,⟨by (with_reducible repeat (first|refine blk_drewN ?_ _|refine blk_drew ?_|refine blk_alloc ?_ _));refine blk_put (cs:=#[.int .i64 t488,.int .i64 0]) ?_ 1 _ rfl;(with_reducible repeat (first|refine blk_drewN ?_ _|refine blk_drew ?_|refine blk_alloc ?_ _));refine blk_put (cs:=#[.int .i64 0,.int .i64 0]) ?_ 0 _ rfl;(with_reducible repeat (first|refine blk_drewN ?_ _|refine blk_drew ?_|refine blk_alloc ?_ _));exact BK491.out⟩,⟨by repeat (first|(with_reducible first|exact HB.out|apply below_alloc|apply pw_below_drewN|apply below_drew1|refine below_set ?_ GE471.out|refine below_set ?_ GE491.out)|exact HB.out)⟩⟩
            ·rw [if_neg c44] at H
             have c44b0:decide ((wrap64 (Int.tmod (IntKind.u64.wrap (a2_2)) 40))<t488)=false:=decide_eq_false c44
             clear c44
             by_cases c48:(wrap64 (Int.tmod (IntKind.u64.wrap (a2_2)) 40))>t489
             ·rw [if_pos c48] at H
              have c48b0:decide (t489<(wrap64 (Int.tmod (IntKind.u64.wrap (a2_2)) 40)))=true:=decide_eq_true c48
              clear c48
              have H':=aK H
              clear H
              obtain ⟨Ao49,co49,eo49⟩:=Kd.R_slice HO_10.out
              subst eo49
              have hnb50:=NB491_471.out
              have hnc50:=NB471_491.out
              have hcz51_0:w37.cell? ⟨gb491,0,none⟩=some (.int .i64 0):=(blk_cell BK491.out 0).trans rfl
              have hcz51_1:w37.cell? ⟨gb491,1,none⟩=some (.int .i64 0):=(blk_cell BK491.out 1).trans rfl
              have hfz51_0:=blk_frozen BK491.out 0
              have hfz51_1:=blk_frozen BK491.out 1
              go_wp2
              repeat (go_quiet (fail);try go_wp2)
              go_meet
              case rel=>exact ⟨_,(false),(by first|rfl|(simp;done)|(simp [*];done)),H',⟨by have:=HJ3.out;have:=HK2.out;first|omega|exact Nat.le_refl _⟩,⟨by (with_reducible repeat (first|apply Kd.R_alloc|apply Kd.R_drewN|apply Kd.R_drew));exact Kd.R_mono (Kd.R_far (p:=⟨gb491,1,none⟩) (Kd.R_far (p:=⟨gb491,0,none⟩) (Kd.R_mono HO_10.out (fun k_ hk=>(⟨hk,hk.2⟩:_∧k_≠gb491))) (fun _ hk=>hk.2) (.int .i64 t488)) (fun _ hk=>hk.2) (.int .i64 t489)) (fun _ hk=>hk.1.2)⟩,⟨by (with_reducible repeat (first|apply Kd.S_alloc|apply Kd.S_drewN|apply Kd.S_drew));exact Kd.S_mono (Kd.S_far (p:=⟨gb491,1,none⟩) (Kd.S_far (p:=⟨gb491,0,none⟩) (Kd.S_types HO_12.out BK491.out (by decide)) (fun _ hk=>hk.2) (.int .i64 t488)) (fun _ hk=>hk.2) (.int .i64 t489)) (fun _ hk=>trivial)⟩,⟨by (with_reducible repeat (first|refine blk_drewN ?_ _|refine blk_drew ?_|refine blk_alloc ?_ _));refine blk_far ?_ NB471_491.out _;(with_reducible repeat (first|refine blk_drewN ?_ _|refine blk_drew ?_|refine blk_alloc ?_ _));refine blk_far ?_ NB471_491.out _;(with_reducible repeat (first|refine blk_drewN ?_ _|refine blk_drew ?_|refine blk_alloc ?_ _));exact BK471.out⟩,⟨by (with_reducible repeat (first|refine blk_drewN ?_ _|refine blk_drew ?_|refine blk_alloc ?_ _));refine blk_put (cs:=#[.int .i64 t488,.int .i64 0]) ?_ 1 _ rfl;(with_reducible repeat (first|refine blk_drewN ?_ _|refine blk_drew ?_|refine blk_alloc ?_ _));refine blk_put (cs:=#[.int .i64 0,.int .i64 0]) ?_ 0 _ rfl;(with_reducible repeat (first|refine blk_drewN ?_ _|refine blk_drew ?_|refine blk_alloc ?_ _));exact BK491.out⟩,⟨by repeat (first|(with_reducible first|exact HB.out|apply below_alloc|apply pw_below_drewN|apply below_drew1|refine below_set ?_ GE471.out|refine below_set ?_ GE491.out)|exact HB.out)⟩⟩
             ·rw [if_neg c48] at H
              have c48b0:decide (t489<(wrap64 (Int.tmod (IntKind.u64.wrap (a2_2)) 40)))=false:=decide_eq_false c48
              clear c48
              have H':=aK H
              clear H
              obtain ⟨Ao52,co52,eo52⟩:=Kd.R_slice HO_10.out
              subst eo52
              have hnb53:=NB491_471.out
              have hnc53:=NB471_491.out
              have hcz54_0:w37.cell? ⟨gb491,0,none⟩=some (.int .i64 0):=(blk_cell BK491.out 0).trans rfl
              have hcz54_1:w37.cell? ⟨gb491,1,none⟩=some (.int .i64 0):=(blk_cell BK491.out 1).trans rfl
              have hfz54_0:=blk_frozen BK491.out 0
              have hfz54_1:=blk_frozen BK491.out 1
              go_wp2
              repeat (go_quiet (fail);try go_wp2)
              go_meet
              case rel=>exact ⟨_,(false),(by first|rfl|(simp;done)|(simp [*];done)),H',⟨by have:=HJ3.out;have:=HK2.out;first|omega|exact Nat.le_refl _⟩,⟨by (with_reducible repeat (first|apply Kd.R_alloc|apply Kd.R_drewN|apply Kd.R_drew));exact Kd.R_mono (Kd.R_far (p:=⟨gb491,1,none⟩) (Kd.R_far (p:=⟨gb491,0,none⟩) (Kd.R_mono HO_10.out (fun k_ hk=>(⟨hk,hk.2⟩:_∧k_≠gb491))) (fun _ hk=>hk.2) (.int .i64 t488)) (fun _ hk=>hk.2) (.int .i64 t489)) (fun _ hk=>hk.1.2)⟩,⟨by (with_reducible repeat (first|apply Kd.S_alloc|apply Kd.S_drewN|apply Kd.S_drew));exact Kd.S_mono (Kd.S_far (p:=⟨gb491,1,none⟩) (Kd.S_far (p:=⟨gb491,0,none⟩) (Kd.S_types HO_12.out BK491.out (by decide)) (fun _ hk=>hk.2) (.int .i64 t488)) (fun _ hk=>hk.2) (.int .i64 t489)) (fun _ hk=>trivial)⟩,⟨by (with_reducible repeat (first|refine blk_drewN ?_ _|refine blk_drew ?_|refine blk_alloc ?_ _));refine blk_far ?_ NB471_491.out _;(with_reducible repeat (first|refine blk_drewN ?_ _|refine blk_drew ?_|refine blk_alloc ?_ _));refine blk_far ?_ NB471_491.out _;(with_reducible repeat (first|refine blk_drewN ?_ _|refine blk_drew ?_|refine blk_alloc ?_ _));exact BK471.out⟩,⟨by (with_reducible repeat (first|refine blk_drewN ?_ _|refine blk_drew ?_|refine blk_alloc ?_ _));refine blk_put (cs:=#[.int .i64 t488,.int .i64 0]) ?_ 1 _ rfl;(with_reducible repeat (first|refine blk_drewN ?_ _|refine blk_drew ?_|refine blk_alloc ?_ _));refine blk_put (cs:=#[.int .i64 0,.int .i64 0]) ?_ 0 _ rfl;(with_reducible repeat (first|refine blk_drewN ?_ _|refine blk_drew ?_|refine blk_alloc ?_ _));exact BK491.out⟩,⟨by repeat (first|(with_reducible first|exact HB.out|apply below_alloc|apply pw_below_drewN|apply below_drew1|refine below_set ?_ GE471.out|refine below_set ?_ GE491.out)|exact HB.out)⟩⟩
           ·rw [if_neg c43] at H
            have c43b0:(t490 == 0)=false:=beq_eq_false_iff_ne.mpr c43
            have c43b1:(t490 != 0)=true:=bne_iff_ne.mpr c43
            have H':=aK H
            clear H
            obtain ⟨Ao55,co55,eo55⟩:=Kd.R_slice HO_10.out
            subst eo55
            go_wp2
            repeat (go_quiet (fail);try go_wp2)
            go_meet
            case rel=>exact ⟨_,((t490 != 4)),(by first|rfl|(simp;done)|(simp [*];done)),H',⟨by have:=HJ3.out;have:=HK2.out;first|omega|exact Nat.le_refl _⟩,⟨by (with_reducible repeat (first|apply Kd.R_alloc|apply Kd.R_drewN|apply Kd.R_drew));exact Kd.R_mono (Kd.R_far (p:=⟨gb491,1,none⟩) (Kd.R_far (p:=⟨gb491,0,none⟩) (Kd.R_mono HO_10.out (fun k_ hk=>(⟨hk,hk.2⟩:_∧k_≠gb491))) (fun _ hk=>hk.2) (.int .i64 t488)) (fun _ hk=>hk.2) (.int .i64 t489)) (fun _ hk=>hk.1.2)⟩,⟨by (with_reducible repeat (first|apply Kd.S_alloc|apply Kd.S_drewN|apply Kd.S_drew));exact Kd.S_mono (Kd.S_far (p:=⟨gb491,1,none⟩) (Kd.S_far (p:=⟨gb491,0,none⟩) (Kd.S_types HO_12.out BK491.out (by decide)) (fun _ hk=>hk.2) (.int .i64 t488)) (fun _ hk=>hk.2) (.int .i64 t489)) (fun _ hk=>trivial)⟩,⟨by (with_reducible repeat (first|refine blk_drewN ?_ _|refine blk_drew ?_|refine blk_alloc ?_ _));refine blk_far ?_ NB471_491.out _;(with_reducible repeat (first|refine blk_drewN ?_ _|refine blk_drew ?_|refine blk_alloc ?_ _));refine blk_far ?_ NB471_491.out _;(with_reducible repeat (first|refine blk_drewN ?_ _|refine blk_drew ?_|refine blk_alloc ?_ _));exact BK471.out⟩,⟨by (with_reducible repeat (first|refine blk_drewN ?_ _|refine blk_drew ?_|refine blk_alloc ?_ _));refine blk_put (cs:=#[.int .i64 t488,.int .i64 0]) ?_ 1 _ rfl;(with_reducible repeat (first|refine blk_drewN ?_ _|refine blk_drew ?_|refine blk_alloc ?_ _));refine blk_put (cs:=#[.int .i64 0,.int .i64 0]) ?_ 0 _ rfl;(with_reducible repeat (first|refine blk_drewN ?_ _|refine blk_drew ?_|refine blk_alloc ?_ _));exact BK491.out⟩,⟨by repeat (first|(with_reducible first|exact HB.out|apply below_alloc|apply pw_below_drewN|apply below_drew1|refine below_set ?_ GE471.out|refine below_set ?_ GE491.out)|exact HB.out)⟩⟩
         ·rw [if_neg c40] at H
          have c40b0:(t490 == 4)=false:=beq_eq_false_iff_ne.mpr c40
          have c40b1:(t490 != 4)=true:=bne_iff_ne.mpr c40
          (first|rw [c40b0]|(simp only [i64_w,i32_w];rw [c40b0])|skip)
          by_cases c56:t490=0
          ·rw [if_pos c56] at H
           have c56b0:(t490 == 0)=true:=beq_iff_eq.mpr c56
           have c56b1:(t490 != 0)=false:=bne_eq_false_iff_eq.mpr c56
           clear c56
           by_cases c57:(wrap64 (Int.tmod (IntKind.u64.wrap (a2_2)) 40))<t488
           ·rw [if_pos c57] at H
            have c57b0:decide ((wrap64 (Int.tmod (IntKind.u64.wrap (a2_2)) 40))<t488)=true:=decide_eq_true c57
            clear c57
            by_cases c58:(t475.length:Int)>0
            ·rw [if_pos c58] at H
             have c58b0:decide (0<(t475.length:Int))=true:=decide_eq_true c58
             have c58b1:decide (0<t475.length)=true:=decide_eq_true (by omega)
             clear c58
             have H':=aK H
             clear H
             have hnb59:=NB491_471.out
             have hnc59:=NB471_491.out
             have hcz60_0:w37.cell? ⟨gb491,0,none⟩=some (.int .i64 0):=(blk_cell BK491.out 0).trans rfl
             have hcz60_1:w37.cell? ⟨gb491,1,none⟩=some (.int .i64 0):=(blk_cell BK491.out 1).trans rfl
             have hfz60_0:=blk_frozen BK491.out 0
             have hfz60_1:=blk_frozen BK491.out 1
             obtain ⟨Ao61,co61,eo61⟩:=Kd.R_slice HO_10.out
             subst eo61
             go_wp2
             repeat (go_quiet (fail);try go_wp2)
             go_meet
             case rel=>exact ⟨_,(true),(by first|rfl|(simp;done)|(simp [*];done)),H',⟨by have:=HJ3.out;have:=HK2.out;first|omega|exact Nat.le_refl _⟩,⟨by (with_reducible repeat (first|apply Kd.R_alloc|apply Kd.R_drewN|apply Kd.R_drew));exact Kd.R_mono (Kd.R_far (p:=⟨gb491,1,none⟩) (Kd.R_far (p:=⟨gb491,0,none⟩) (Kd.R_mono HO_10.out (fun k_ hk=>(⟨hk,hk.2⟩:_∧k_≠gb491))) (fun _ hk=>hk.2) (.int .i64 t488)) (fun _ hk=>hk.2) (.int .i64 t489)) (fun _ hk=>hk.1.2)⟩,⟨by (with_reducible repeat (first|apply Kd.S_alloc|apply Kd.S_drewN|apply Kd.S_drew));exact Kd.S_mono (Kd.S_far (p:=⟨gb491,1,none⟩) (Kd.S_far (p:=⟨gb491,0,none⟩) (Kd.S_types HO_12.out BK491.out (by decide)) (fun _ hk=>hk.2) (.int .i64 t488)) (fun _ hk=>hk.2) (.int .i64 t489)) (fun _ hk=>trivial)⟩,⟨by (with_reducible repeat (first|refine blk_drewN ?_ _|refine blk_drew ?_|refine blk_alloc ?_ _));refine blk_far ?_ NB471_491.out _;(with_reducible repeat (first|refine blk_drewN ?_ _|refine blk_drew ?_|refine blk_alloc ?_ _));refine blk_far ?_ NB471_491.out _;(with_reducible repeat (first|refine blk_drewN ?_ _|refine blk_drew ?_|refine blk_alloc ?_ _));exact BK471.out⟩,⟨by (with_reducible repeat (first|refine blk_drewN ?_ _|refine blk_drew ?_|refine blk_alloc ?_ _));refine blk_put (cs:=#[.int .i64 t488,.int .i64 0]) ?_ 1 _ rfl;(with_reducible repeat (first|refine blk_drewN ?_ _|refine blk_drew ?_|refine blk_alloc ?_ _));refine blk_put (cs:=#[.int .i64 0,.int .i64 0]) ?_ 0 _ rfl;(with_reducible repeat (first|refine blk_drewN ?_ _|refine blk_drew ?_|refine blk_alloc ?_ _));exact BK491.out⟩,⟨by repeat (first|(with_reducible first|exact HB.out|apply below_alloc|apply pw_below_drewN|apply below_drew1|refine below_set ?_ GE471.out|refine below_set ?_ GE491.out)|exact HB.out)⟩⟩
            ·rw [if_neg c58] at H
             have c58b0:decide (0<(t475.length:Int))=false:=decide_eq_false c58
             have c58b1:decide (0<t475.length)=false:=decide_eq_false (by omega)
             clear c58
             have H':=aK H
             clear H
             have hnb62:=NB491_471.out
             have hnc62:=NB471_491.out
             have hcz63_0:w37.cell? ⟨gb491,0,none⟩=some (.int .i64 0):=(blk_cell BK491.out 0).trans rfl
             have hcz63_1:w37.cell? ⟨gb491,1,none⟩=some (.int .i64 0):=(blk_cell BK491.out 1).trans rfl
             have hfz63_0:=blk_frozen BK491.out 0
             have hfz63_1:=blk_frozen BK491.out 1
             obtain ⟨Ao64,co64,eo64⟩:=Kd.R_slice HO_10.out
             subst eo64
             go_wp2
             repeat (go_quiet (fail);try go_wp2)
             go_meet
             case rel=>exact ⟨_,(false),(by first|rfl|(simp;done)|(simp [*];done)),H',⟨by have:=HJ3.out;have:=HK2.out;first|omega|exact Nat.le_refl _⟩,⟨by (with_reducible repeat (first|apply Kd.R_alloc|apply Kd.R_drewN|apply Kd.R_drew));exact Kd.R_mono (Kd.R_far (p:=⟨gb491,1,none⟩) (Kd.R_far (p:=⟨gb491,0,none⟩) (Kd.R_mono HO_10.out (fun k_ hk=>(⟨hk,hk.2⟩:_∧k_≠gb491))) (fun _ hk=>hk.2) (.int .i64 t488)) (fun _ hk=>hk.2) (.int .i64 t489)) (fun _ hk=>hk.1.2)⟩,⟨by (with_reducible repeat (first|apply Kd.S_alloc|apply Kd.S_drewN|apply Kd.S_drew));exact Kd.S_mono (Kd.S_far (p:=⟨gb491,1,none⟩) (Kd.S_far (p:=⟨gb491,0,none⟩) (Kd.S_types HO_12.out BK491.out (by decide)) (fun _ hk=>hk.2) (.int .i64 t488)) (fun _ hk=>hk.2) (.int .i64 t489)) (fun _ hk=>trivial)⟩,⟨by (with_reducible repeat (first|refine blk_drewN ?_ _|refine blk_drew ?_|refine blk_alloc ?_ _));refine blk_far ?_ NB471_491.out _;(with_reducible repeat (first|refine blk_drewN ?_ _|refine blk_drew ?_|refine blk_alloc ?_ _));refine blk_far ?_ NB471_491.out _;(with_reducible repeat (first|refine blk_drewN ?_ _|refine blk_drew ?_|refine blk_alloc ?_ _));exact BK471.out⟩,⟨by (with_reducible repeat (first|refine blk_drewN ?_ _|refine blk_drew ?_|refine blk_alloc ?_ _));refine blk_put (cs:=#[.int .i64 t488,.int .i64 0]) ?_ 1 _ rfl;(with_reducible repeat (first|refine blk_drewN ?_ _|refine blk_drew ?_|refine blk_alloc ?_ _));refine blk_put (cs:=#[.int .i64 0,.int .i64 0]) ?_ 0 _ rfl;(with_reducible repeat (first|refine blk_drewN ?_ _|refine blk_drew ?_|refine blk_alloc ?_ _));exact BK491.out⟩,⟨by repeat (first|(with_reducible first|exact HB.out|apply below_alloc|apply pw_below_drewN|apply below_drew1|refine below_set ?_ GE471.out|refine below_set ?_ GE491.out)|exact HB.out)⟩⟩
           ·rw [if_neg c57] at H
            have c57b0:decide ((wrap64 (Int.tmod (IntKind.u64.wrap (a2_2)) 40))<t488)=false:=decide_eq_false c57
            clear c57
            by_cases c65:(wrap64 (Int.tmod (IntKind.u64.wrap (a2_2)) 40))>t489
            ·rw [if_pos c65] at H
             have c65b0:decide (t489<(wrap64 (Int.tmod (IntKind.u64.wrap (a2_2)) 40)))=true:=decide_eq_true c65
             clear c65
             by_cases c66:(t475.length:Int)>0
             ·rw [if_pos c66] at H
              have c66b0:decide (0<(t475.length:Int))=true:=decide_eq_true c66
              have c66b1:decide (0<t475.length)=true:=decide_eq_true (by omega)
              clear c66
              have H':=aK H
              clear H
              have hnb67:=NB491_471.out
              have hnc67:=NB471_491.out
              have hcz68_0:w37.cell? ⟨gb491,0,none⟩=some (.int .i64 0):=(blk_cell BK491.out 0).trans rfl
              have hcz68_1:w37.cell? ⟨gb491,1,none⟩=some (.int .i64 0):=(blk_cell BK491.out 1).trans rfl
              have hfz68_0:=blk_frozen BK491.out 0
              have hfz68_1:=blk_frozen BK491.out 1
              obtain ⟨Ao69,co69,eo69⟩:=Kd.R_slice HO_10.out
              subst eo69
              go_wp2
              repeat (go_quiet (fail);try go_wp2)
              go_meet
              case rel=>exact ⟨_,(true),(by first|rfl|(simp;done)|(simp [*];done)),H',⟨by have:=HJ3.out;have:=HK2.out;first|omega|exact Nat.le_refl _⟩,⟨by (with_reducible repeat (first|apply Kd.R_alloc|apply Kd.R_drewN|apply Kd.R_drew));exact Kd.R_mono (Kd.R_far (p:=⟨gb491,1,none⟩) (Kd.R_far (p:=⟨gb491,0,none⟩) (Kd.R_mono HO_10.out (fun k_ hk=>(⟨hk,hk.2⟩:_∧k_≠gb491))) (fun _ hk=>hk.2) (.int .i64 t488)) (fun _ hk=>hk.2) (.int .i64 t489)) (fun _ hk=>hk.1.2)⟩,⟨by (with_reducible repeat (first|apply Kd.S_alloc|apply Kd.S_drewN|apply Kd.S_drew));exact Kd.S_mono (Kd.S_far (p:=⟨gb491,1,none⟩) (Kd.S_far (p:=⟨gb491,0,none⟩) (Kd.S_types HO_12.out BK491.out (by decide)) (fun _ hk=>hk.2) (.int .i64 t488)) (fun _ hk=>hk.2) (.int .i64 t489)) (fun _ hk=>trivial)⟩,⟨by (with_reducible repeat (first|refine blk_drewN ?_ _|refine blk_drew ?_|refine blk_alloc ?_ _));refine blk_far ?_ NB471_491.out _;(with_reducible repeat (first|refine blk_drewN ?_ _|refine blk_drew ?_|refine blk_alloc ?_ _));refine blk_far ?_ NB471_491.out _;(with_reducible repeat (first|refine blk_drewN ?_ _|refine blk_drew ?_|refine blk_alloc ?_ _));exact BK471.out⟩,⟨by (with_reducible repeat (first|refine blk_drewN ?_ _|refine blk_drew ?_|refine blk_alloc ?_ _));refine blk_put (cs:=#[.int .i64 t488,.int .i64 0]) ?_ 1 _ rfl;(with_reducible repeat (first|refine blk_drewN ?_ _|refine blk_drew ?_|refine blk_alloc ?_ _));refine blk_put (cs:=#[.int .i64 0,.int .i64 0]) ?_ 0 _ rfl;(with_reducible repeat (first|refine blk_drewN ?_ _|refine blk_drew ?_|refine blk_alloc ?_ _));exact BK491.out⟩,⟨by repeat (first|(with_reducible first|exact HB.out|apply below_alloc|apply pw_below_drewN|apply below_drew1|refine below_set ?_ GE471.out|refine below_set ?_ GE491.out)|exact HB.out)⟩⟩
             ·rw [if_neg c66] at H
              have c66b0:decide (0<(t475.length:Int))=false:=decide_eq_false c66
              have c66b1:decide (0<t475.length)=false:=decide_eq_false (by omega)
              clear c66
              have H':=aK H
              clear H
              have hnb70:=NB491_471.out
              have hnc70:=NB471_491.out
              have hcz71_0:w37.cell? ⟨gb491,0,none⟩=some (.int .i64 0):=(blk_cell BK491.out 0).trans rfl
              have hcz71_1:w37.cell? ⟨gb491,1,none⟩=some (.int .i64 0):=(blk_cell BK491.out 1).trans rfl
              have hfz71_0:=blk_frozen BK491.out 0
              have hfz71_1:=blk_frozen BK491.out 1
              obtain ⟨Ao72,co72,eo72⟩:=Kd.R_slice HO_10.out
              subst eo72
              go_wp2
              repeat (go_quiet (fail);try go_wp2)
              go_meet
              case rel=>exact ⟨_,(false),(by first|rfl|(simp;done)|(simp [*];done)),H',⟨by have:=HJ3.out;have:=HK2.out;first|omega|exact Nat.le_refl _⟩,⟨by (with_reducible repeat (first|apply Kd.R_alloc|apply Kd.R_drewN|apply Kd.R_drew));exact Kd.R_mono (Kd.R_far (p:=⟨gb491,1,none⟩) (Kd.R_far (p:=⟨gb491,0,none⟩) (Kd.R_mono HO_10.out (fun k_ hk=>(⟨hk,hk.2⟩:_∧k_≠gb491))) (fun _ hk=>hk.2) (.int .i64 t488)) (fun _ hk=>hk.2) (.int .i64 t489)) (fun _ hk=>hk.1.2)⟩,⟨by (with_reducible repeat (first|apply Kd.S_alloc|apply Kd.S_drewN|apply Kd.S_drew));exact Kd.S_mono (Kd.S_far (p:=⟨gb491,1,none⟩) (Kd.S_far (p:=⟨gb491,0,none⟩) (Kd.S_types HO_12.out BK491.out (by decide)) (fun _ hk=>hk.2) (.int .i64 t488)) (fun _ hk=>hk.2) (.int .i64 t489)) (fun _ hk=>trivial)⟩,⟨by (with_reducible repeat (first|refine blk_drewN ?_ _|refine blk_drew ?_|refine blk_alloc ?_ _));refine blk_far ?_ NB471_491.out _;(with_reducible repeat (first|refine blk_drewN ?_ _|refine blk_drew ?_|refine blk_alloc ?_ _));refine blk_far ?_ NB471_491.out _;(with_reducible repeat (first|refine blk_drewN ?_ _|refine blk_drew ?_|refine blk_alloc ?_ _));exact BK471.out⟩,⟨by (with_reducible repeat (first|refine blk_drewN ?_ _|refine blk_drew ?_|refine blk_alloc ?_ _));refine blk_put (cs:=#[.int .i64 t488,.int .i64 0]) ?_ 1 _ rfl;(with_reducible repeat (first|refine blk_drewN ?_ _|refine blk_drew ?_|refine blk_alloc ?_ _));refine blk_put (cs:=#[.int .i64 0,.int .i64 0]) ?_ 0 _ rfl;(with_reducible repeat (first|refine blk_drewN ?_ _|refine blk_drew ?_|refine blk_alloc ?_ _));exact BK491.out⟩,⟨by repeat (first|(with_reducible first|exact HB.out|apply below_alloc|apply pw_below_drewN|apply below_drew1|refine below_set ?_ GE471.out|refine below_set ?_ GE491.out)|exact HB.out)⟩⟩
            ·rw [if_neg c65] at H
             have c65b0:decide (t489<(wrap64 (Int.tmod (IntKind.u64.wrap (a2_2)) 40)))=false:=decide_eq_false c65
             clear c65
             have H':=aK H
             clear H
             have hnb73:=NB491_471.out
             have hnc73:=NB471_491.out
             have hcz74_0:w37.cell? ⟨gb491,0,none⟩=some (.int .i64 0):=(blk_cell BK491.out 0).trans rfl
             have hcz74_1:w37.cell? ⟨gb491,1,none⟩=some (.int .i64 0):=(blk_cell BK491.out 1).trans rfl
             have hfz74_0:=blk_frozen BK491.out 0
             have hfz74_1:=blk_frozen BK491.out 1
             go_wp2
             repeat (go_quiet (fail);try go_wp2)
             go_meet
             case rel=>exact ⟨_,(false),(by first|rfl|(simp;done)|(simp [*];done)),H',⟨by have:=HJ3.out;have:=HK2.out;first|omega|exact Nat.le_refl _⟩,⟨by (with_reducible repeat (first|apply Kd.R_alloc|apply Kd.R_drewN|apply Kd.R_drew));exact Kd.R_mono (Kd.R_far (p:=⟨gb491,1,none⟩) (Kd.R_far (p:=⟨gb491,0,none⟩) (Kd.R_mono HO_10.out (fun k_ hk=>(⟨hk,hk.2⟩:_∧k_≠gb491))) (fun _ hk=>hk.2) (.int .i64 t488)) (fun _ hk=>hk.2) (.int .i64 t489)) (fun _ hk=>hk.1.2)⟩,⟨by (with_reducible repeat (first|apply Kd.S_alloc|apply Kd.S_drewN|apply Kd.S_drew));exact Kd.S_mono (Kd.S_far (p:=⟨gb491,1,none⟩) (Kd.S_far (p:=⟨gb491,0,none⟩) (Kd.S_types HO_12.out BK491.out (by decide)) (fun _ hk=>hk.2) (.int .i64 t488)) (fun _ hk=>hk.2) (.int .i64 t489)) (fun _ hk=>trivial)⟩,⟨by (with_reducible repeat (first|refine blk_drewN ?_ _|refine blk_drew ?_|refine blk_alloc ?_ _));refine blk_far ?_ NB471_491.out _;(with_reducible repeat (first|refine blk_drewN ?_ _|refine blk_drew ?_|refine blk_alloc ?_ _));refine blk_far ?_ NB471_491.out _;(with_reducible repeat (first|refine blk_drewN ?_ _|refine blk_drew ?_|refine blk_alloc ?_ _));exact BK471.out⟩,⟨by (with_reducible repeat (first|refine blk_drewN ?_ _|refine blk_drew ?_|refine blk_alloc ?_ _));refine blk_put (cs:=#[.int .i64 t488,.int .i64 0]) ?_ 1 _ rfl;(with_reducible repeat (first|refine blk_drewN ?_ _|refine blk_drew ?_|refine blk_alloc ?_ _));refine blk_put (cs:=#[.int .i64 0,.int .i64 0]) ?_ 0 _ rfl;(with_reducible repeat (first|refine blk_drewN ?_ _|refine blk_drew ?_|refine blk_alloc ?_ _));exact BK491.out⟩,⟨by repeat (first|(with_reducible first|exact HB.out|apply below_alloc|apply pw_below_drewN|apply below_drew1|refine below_set ?_ GE471.out|refine below_set ?_ GE491.out)|exact HB.out)⟩⟩
          ·rw [if_neg c56] at H
           have c56b0:(t490 == 0)=false:=beq_eq_false_iff_ne.mpr c56
           have c56b1:(t490 != 0)=true:=bne_iff_ne.mpr c56
           have H':=aK H
           clear H
           go_wp2
           repeat (go_quiet (fail);try go_wp2)
           go_meet
           case rel=>exact ⟨_,((t490 != 4)),(by first|rfl|(simp;done)|(simp [*];done)),H',⟨by have:=HJ3.out;have:=HK2.out;first|omega|exact Nat.le_refl _⟩,⟨by (with_reducible repeat (first|apply Kd.R_alloc|apply Kd.R_drewN|apply Kd.R_drew));exact Kd.R_mono (Kd.R_far (p:=⟨gb491,1,none⟩) (Kd.R_far (p:=⟨gb491,0,none⟩) (Kd.R_mono HO_10.out (fun k_ hk=>(⟨hk,hk.2⟩:_∧k_≠gb491))) (fun _ hk=>hk.2) (.int .i64 t488)) (fun _ hk=>hk.2) (.int .i64 t489)) (fun _ hk=>hk.1.2)⟩,⟨by (with_reducible repeat (first|apply Kd.S_alloc|apply Kd.S_drewN|apply Kd.S_drew));exact Kd.S_mono (Kd.S_far (p:=⟨gb491,1,none⟩) (Kd.S_far (p:=⟨gb491,0,none⟩) (Kd.S_types HO_12.out BK491.out (by decide)) (fun _ hk=>hk.2) (.int .i64 t488)) (fun _ hk=>hk.2) (.int .i64 t489)) (fun _ hk=>trivial)⟩,⟨by (with_reducible repeat (first|refine blk_drewN ?_ _|refine blk_drew ?_|refine blk_alloc ?_ _));refine blk_far ?_ NB471_491.out _;(with_reducible repeat (first|refine blk_drewN ?_ _|refine blk_drew ?_|refine blk_alloc ?_ _));refine blk_far ?_ NB471_491.out _;(with_reducible repeat (first|refine blk_drewN ?_ _|refine blk_drew ?_|refine blk_alloc ?_ _));exact BK471.out⟩,⟨by (with_reducible repeat (first|refine blk_drewN ?_ _|refine blk_drew ?_|refine blk_alloc ?_ _));refine blk_put (cs:=#[.int .i64 t488,.int .i64 0]) ?_ 1 _ rfl;(with_reducible repeat (first|refine blk_drewN ?_ _|refine blk_drew ?_|refine blk_alloc ?_ _));refine blk_put (cs:=#[.int .i64 0,.int .i64 0]) ?_ 0 _ rfl;(with_reducible repeat (first|refine blk_drewN ?_ _|refine blk_drew ?_|refine blk_alloc ?_ _));exact BK491.out⟩,⟨by repeat (first|(with_reducible first|exact HB.out|apply below_alloc|apply pw_below_drewN|apply below_drew1|refine below_set ?_ GE471.out|refine below_set ?_ GE491.out)|exact HB.out)⟩⟩
        case rest =>
         clear HC35
         try clear c1
         try clear c2
         try clear p2
         try clear c3
         try clear c4
         try clear p4
         try clear q4
         try clear hx4
         try clear c5
         try clear c6
         try clear p6
         try clear c7
         try clear c10
         try clear c16
         try clear c16b0
         try clear c18
         try clear c18b0
         try clear c19
         try clear c19b0
         try clear c20
         try clear c20b0
         try clear c21
         try clear c21b0
         try clear c21b1
         try clear c21b2
         try clear c23
         try clear c23b0
         try clear c24
         try clear c24b0
         try clear c25
         try clear c27
         try clear c30
         try clear c33
         try clear c33b0
         try clear c33b1
         try clear c38
         try clear c40
         try clear c40b0
         try clear c40b1
         try clear c41
         try clear c41b0
         try clear c41b1
         try clear c43
         try clear c43b0
         try clear c43b1
         try clear c44
         try clear c44b0
         try clear c46
         try clear c47
         try clear p47
         try clear q47
         try clear hx47
         try clear c48
         try clear c48b0
         try clear p48
         try clear q48
         try clear hx48
         try clear c50
         try clear c53
         try clear c56
         try clear c56b0
         try clear c56b1
         try clear c57
         try clear c57b0
         try clear c58
         try clear c58b0
         try clear c58b1
         try clear c59
         try clear c62
         try clear p64
         try clear c65
         try clear c65b0
         try clear c66
         try clear c66b0
         try clear c66b1
         try clear c67
         try clear c70
         try clear c73
         try clear hcz14_0
         try clear hcz14_1
         try clear hcz14_2
         try clear hcz28_0
         try clear hcz28_1
         try clear hcz39_0
         try clear hcz39_1
         try clear hcz47_0
         try clear hcz47_1
         try clear hcz51_0
         try clear hcz51_1
         try clear hcz54_0
         try clear hcz54_1
         try clear hcz60_0
         try clear hcz60_1
         try clear hcz63_0
         try clear hcz63_1
         try clear hcz68_0
         try clear hcz68_1
         try clear hcz71_0
         try clear hcz71_1
         try clear hcz74_0
         try clear hcz74_1
         try clear hfz14_0
         try clear hfz14_1
         try clear hfz14_2
         try clear hfz28_0
         try clear hfz28_1
         try clear hfz39_0
         try clear hfz39_1
         try clear hfz47_0
         try clear hfz47_1
         try clear hfz51_0
         try clear hfz51_1
         try clear hfz54_0
         try clear hfz54_1
         try clear hfz60_0
         try clear hfz60_1
         try clear hfz63_0
         try clear hfz63_1
         try clear hfz68_0
         try clear hfz68_1
         try clear hfz71_0
         try clear hfz71_1
         try clear hfz74_0
         try clear hfz74_1
         try clear hx479_0
         try clear hx480_0
         try clear hx480_1
         try clear p2
         try clear p4
         try clear p479
         try clear p480
         try clear p6
         try clear q4
         try clear q479
         try clear q480
         obtain ⟨kq,x142_34,rfl,HA,HJ34,HO_10,HO_12,BK471,BK491,HB⟩:=hcut
         cases kq with
         | zero=>exact absurd HA.out (by simp [fleuronlaw19_ScanMoved.j3])
         | succ kj34 =>
          have H:=HA.out
          clear HA
          simp only [fleuronlaw19_ScanMoved.j3] at H
          by_cases c75:x142_34=true
          ·subst c75
           have H1:(some false)=some r:=by rw [if_pos rfl] at H;exact H
           clear H
           have H:=H1
           clear H1
           obtain rfl:=Option.some.inj H
           go_wp2
           repeat (go_quiet (fail);try go_wp2)
           go_ret
           exact ⟨by first|rfl|(simp [errW_none,errW_some] <;> rfl)|(simp [*,errW_none,errW_some] <;> rfl),by repeat (first|(with_reducible first|exact HB.out|apply below_alloc|apply pw_below_drewN|apply below_drew1|refine below_set ?_ GE471.out|refine below_set ?_ GE491.out)|exact HB.out)⟩
          ·replace c75:=Bool.eq_false_iff.mpr c75
           subst c75
           have H1:((fleuronref17_Some.f kj34 x12_2).bind fun t492=>(if t492=true then ((scan_Row.f kj34 x12_2 a1 60 (wrap64 ((wrap64 (Int.tmod (IntKind.u64.wrap (a2_2)) 40))+(wrap64 (Int.tmod (IntKind.u64.wrap (a2_1)) 20))))).bind fun bt494=>(fleuronlaw19_ScanMoved.l2 kj34 (wrap64 (Int.tmod (IntKind.u64.wrap (a2_0)) 20)) t475 bt494.1 bt494.2 0)) else ((fleuronlaw19_awake.f).bind fun t493=>(some t493))))=some r:=by rw [if_neg (show ¬ (false=true) by decide)] at H;exact H
           clear H
           have H:=H1
           clear H1
           replace H:=Option.bind_eq_some_iff.mp H
           obtain ⟨t492,A760,H⟩:=H
           replace H:(if t492=true then ((scan_Row.f kj34 x12_2 a1 60 (wrap64 ((wrap64 (Int.tmod (IntKind.u64.wrap (a2_2)) 40))+(wrap64 (Int.tmod (IntKind.u64.wrap (a2_1)) 20))))).bind fun bt494=>(fleuronlaw19_ScanMoved.l2 kj34 (wrap64 (Int.tmod (IntKind.u64.wrap (a2_0)) 20)) t475 bt494.1 bt494.2 0)) else ((fleuronlaw19_awake.f).bind fun t493=>(some t493)))=some r:=H
           have A76:=aK A760
           clear A760
           by_cases c77:t492=true
           ·subst c77
            have H1:((scan_Row.f kj34 x12_2 a1 60 (wrap64 ((wrap64 (Int.tmod (IntKind.u64.wrap (a2_2)) 40))+(wrap64 (Int.tmod (IntKind.u64.wrap (a2_1)) 20))))).bind fun bt494=>(fleuronlaw19_ScanMoved.l2 kj34 (wrap64 (Int.tmod (IntKind.u64.wrap (a2_0)) 20)) t475 bt494.1 bt494.2 0))=some r:=by rw [if_pos rfl] at H;exact H
            clear H
            have H:=H1
            clear H1
            replace H:=Option.bind_eq_some_iff.mp H
            obtain ⟨⟨t494,t495⟩,A780,H⟩:=H
            replace H:(fleuronlaw19_ScanMoved.l2 kj34 (wrap64 (Int.tmod (IntKind.u64.wrap (a2_0)) 20)) t475 t494 t495 0)=some r:=H
            have A78:=aK A780
            clear A780
            have H':=aK H
            clear H
            obtain ⟨Ao79,co79,eo79⟩:=Kd.S_slice HO_12.out
            subst eo79
            go_wp2_with (first|(go_at_call 27;(with_reducible refine (fleuronref17_Some.calls kj34 _ _ x12_2 true _ ?side1 ?side2 A76.out).mono ?_);(case side1=>repeat (first|exact (Kd.S_reads' HO_12.out).2.2|(with_reducible refine Kd.C_alloc ?_ _)|(with_reducible refine Kd.C_drewN ?_ _)|(with_reducible refine Kd.C_drew ?_)));(case side2=>exact (Kd.S_reads' HO_12.out).2.1);rintro e w80 ⟨rfl,hb⟩;have n0_:=aK (Kd.R_below (by (with_reducible repeat (first|apply Kd.R_alloc|apply Kd.R_drewN|apply Kd.R_drew));exact HO_10.out) hb);have n1_:=aK (Kd.S_below (by (with_reducible repeat (first|apply Kd.S_alloc|apply Kd.S_drewN|apply Kd.S_drew));exact HO_12.out) hb);have n2_:=aK (blk_below (g:=gb471) (o:=.cells #[.int .i64 a2_0,.int .i64 a2_1,.int .i64 a2_2] 43 (0,0)) (by (with_reducible repeat (first|refine blk_drewN ?_ _|refine blk_drew ?_|refine blk_alloc ?_ _));exact BK471.out) hb);have n3_:=aK (blk_below (g:=gb491) (o:=.cells #[.int .i64 t488,.int .i64 t489] 23 (0,0)) (by (with_reducible repeat (first|refine blk_drewN ?_ _|refine blk_drew ?_|refine blk_alloc ?_ _));exact BK491.out) hb);have n4_:=aK (below_step (by repeat (first|(with_reducible first|exact HB.out|apply below_alloc|apply pw_below_drewN|apply below_drew1|refine below_set ?_ GE471.out|refine below_set ?_ GE491.out)|exact HB.out)) hb);clear HO_10;clear HO_12;clear BK471;clear BK491;clear HB;have HO_10:=n0_;have HO_12:=n1_;have BK471:=n2_;have BK491:=n3_;have HB:=n4_;clear n0_ n1_ n2_ n3_ n4_;(try clear hb);(try clear hb2);(try clear hk);(try clear hi))|(go_at_call 10;(with_reducible refine (scan_Row.calls kj34 _ _ x12_2 a1 60 (wrap64 ((wrap64 (Int.tmod (IntKind.u64.wrap (a2_2)) 40))+(wrap64 (Int.tmod (IntKind.u64.wrap (a2_1)) 20)))) t494 t495 _ ?side1 ?side2 A78.out).mono ?_);(case side1=>repeat (first|exact (Kd.S_reads' HO_12.out).2.2|(with_reducible refine Kd.C_alloc ?_ _)|(with_reducible refine Kd.C_drewN ?_ _)|(with_reducible refine Kd.C_drew ?_)));(case side2=>exact (Kd.S_reads' HO_12.out).2.1);rintro e w81 ⟨v496,rfl,ho0,hb⟩;have n0_:=aK (Kd.R_elder' (by (with_reducible repeat (first|apply Kd.R_alloc|apply Kd.R_drewN|apply Kd.R_drew));exact HO_10.out) (Kd.R_base ho0) hb);have n1_:=aK (Kd.S_below (by (with_reducible repeat (first|apply Kd.S_alloc|apply Kd.S_drewN|apply Kd.S_drew));exact HO_12.out) hb);have n2_:=aK (Kd.R_lower (Kd.R_newB (Kd.R_new' ho0 (Kd.R_lt (by (with_reducible repeat (first|apply Kd.R_alloc|apply Kd.R_drewN|apply Kd.R_drew));exact HO_10.out))) (g:=gb491) (o:=.cells #[.int .i64 t488,.int .i64 t489] 23 (0,0)) (by (with_reducible repeat (first|refine blk_drewN ?_ _|refine blk_drew ?_|refine blk_alloc ?_ _));exact BK491.out)) (below_size (by repeat (first|(with_reducible first|exact HB.out|apply below_alloc|apply pw_below_drewN|apply below_drew1|refine below_set ?_ GE471.out|refine below_set ?_ GE491.out)|exact HB.out))));have n3_:=aK (blk_below (g:=gb471) (o:=.cells #[.int .i64 a2_0,.int .i64 a2_1,.int .i64 a2_2] 43 (0,0)) (by (with_reducible repeat (first|refine blk_drewN ?_ _|refine blk_drew ?_|refine blk_alloc ?_ _));exact BK471.out) hb);have n4_:=aK (blk_below (g:=gb491) (o:=.cells #[.int .i64 t488,.int .i64 t489] 23 (0,0)) (by (with_reducible repeat (first|refine blk_drewN ?_ _|refine blk_drew ?_|refine blk_alloc ?_ _));exact BK491.out) hb);have n5_:=aK (below_step (by repeat (first|(with_reducible first|exact HB.out|apply below_alloc|apply pw_below_drewN|apply below_drew1|refine below_set ?_ GE471.out|refine below_set ?_ GE491.out)|exact HB.out)) hb);clear HO_10;clear HO_12;clear BK471;clear BK491;clear HB;have HO_10:=n0_;have HO_12:=n1_;have HO497:=n2_;have BK471:=n3_;have BK491:=n4_;have HB:=n5_;clear n0_ n1_ n2_ n3_ n4_ n5_;(try clear hb);(try clear hb2);(try clear hk);(try clear hi);(try clear ho0)))
            repeat (go_quiet (fail);try go_wp2_with (fail))
            go_loopg [156] kj34 (fun kq v156 w'=>∃ (x156_4:Int),v156 = .int .i64 x156_4∧Aside0 (fleuronlaw19_ScanMoved.l2 kq (wrap64 (Int.tmod (IntKind.u64.wrap (a2_0)) 20)) t475 t494 t495 x156_4=some r)∧Aside0 (kq≤kj34)∧Aside0 (Kd.R k23 23 w' w.heap.size (fun k_=>some k_≠(v496:Value).ownBlock∧k_≠gb491) v477 t475)∧Aside0 (Kd.R k23 23 w' w.heap.size (fun k_=>some k_≠(v477:Value).ownBlock∧k_≠gb491) v496 t494)∧Aside0 (w'.heap[gb471]?=some (.cells #[.int .i64 a2_0,.int .i64 a2_1,.int .i64 a2_2] 43 (0,0)))∧Aside0 (w'.heap[gb491]?=some (.cells #[.int .i64 t488,.int .i64 t489] 23 (0,0)))∧Aside0 (Below w.heap.size w w'))
            case atStart=>exact ⟨(0),(by first|rfl|(simp;done)|(simp [*];done)),H',⟨Nat.le_refl _⟩,⟨by (with_reducible repeat (first|apply Kd.R_alloc|apply Kd.R_drewN|apply Kd.R_drew));exact Kd.R_mono HO_10.out (fun _ hk=>⟨hk.2,hk.1⟩)⟩,⟨by (with_reducible repeat (first|apply Kd.R_alloc|apply Kd.R_drewN|apply Kd.R_drew));exact Kd.R_mono HO497.out (fun _ hk=>⟨hk.1.2,hk.2⟩)⟩,⟨by (with_reducible repeat (first|refine blk_drewN ?_ _|refine blk_drew ?_|refine blk_alloc ?_ _));exact BK471.out⟩,⟨by (with_reducible repeat (first|refine blk_drewN ?_ _|refine blk_drew ?_|refine blk_alloc ?_ _));exact BK491.out⟩,⟨by repeat (first|(with_reducible first|exact HB.out|apply below_alloc|apply pw_below_drewN|apply below_drew1|refine below_set ?_ GE471.out|refine below_set ?_ GE491.out)|exact HB.out)⟩⟩
            case round =>
             clear H'
             try clear c1
             try clear c2
             try clear p2
             try clear c3
             try clear c4
             try clear p4
             try clear q4
             try clear hx4
             try clear c5
             try clear c6
             try clear p6
             try clear c7
             try clear c10
             try clear c16
             try clear c16b0
             try clear c18
             try clear c18b0
             try clear c19
             try clear c19b0
             try clear c20
             try clear c20b0
             try clear c21
             try clear c21b0
             try clear c21b1
             try clear c21b2
             try clear c23
             try clear c23b0
             try clear c24
             try clear c24b0
             try clear c25
             try clear c27
             try clear c30
             try clear c33
             try clear c33b0
             try clear c33b1
             try clear c38
             try clear c40
             try clear c40b0
             try clear c40b1
             try clear c41
             try clear c41b0
             try clear c41b1
             try clear c43
             try clear c43b0
             try clear c43b1
             try clear c44
             try clear c44b0
             try clear c46
             try clear c47
             try clear p47
             try clear q47
             try clear hx47
             try clear c48
             try clear c48b0
             try clear p48
             try clear q48
             try clear hx48
             try clear c50
             try clear c53
             try clear c56
             try clear c56b0
             try clear c56b1
             try clear c57
             try clear c57b0
             try clear c58
             try clear c58b0
             try clear c58b1
             try clear c59
             try clear c62
             try clear p64
             try clear c65
             try clear c65b0
             try clear c66
             try clear c66b0
             try clear c66b1
             try clear c67
             try clear c70
             try clear c73
             try clear c75
             try clear c77
             try clear hcz14_0
             try clear hcz14_1
             try clear hcz14_2
             try clear hcz28_0
             try clear hcz28_1
             try clear hcz39_0
             try clear hcz39_1
             try clear hcz47_0
             try clear hcz47_1
             try clear hcz51_0
             try clear hcz51_1
             try clear hcz54_0
             try clear hcz54_1
             try clear hcz60_0
             try clear hcz60_1
             try clear hcz63_0
             try clear hcz63_1
             try clear hcz68_0
             try clear hcz68_1
             try clear hcz71_0
             try clear hcz71_1
             try clear hcz74_0
             try clear hcz74_1
             try clear hfz14_0
             try clear hfz14_1
             try clear hfz14_2
             try clear hfz28_0
             try clear hfz28_1
             try clear hfz39_0
             try clear hfz39_1
             try clear hfz47_0
             try clear hfz47_1
             try clear hfz51_0
             try clear hfz51_1
             try clear hfz54_0
             try clear hfz54_1
             try clear hfz60_0
             try clear hfz60_1
             try clear hfz63_0
             try clear hfz63_1
             try clear hfz68_0
             try clear hfz68_1
             try clear hfz71_0
             try clear hfz71_1
             try clear hfz74_0
             try clear hfz74_1
             try clear hx479_0
             try clear hx480_0
             try clear hx480_1
             try clear p2
             try clear p4
             try clear p47
             try clear p479
             try clear p48
             try clear p480
             try clear p6
             try clear p64
             try clear q4
             try clear q47
             try clear q479
             try clear q48
             try clear q480
             obtain ⟨x156_4,rfl,HA,HK4,HO_10,HO_20,BK471,BK491,HB⟩:=hrel
             cases gk with
             | zero=>exact absurd HA.out (by simp [fleuronlaw19_ScanMoved.l2])
             | succ k4 =>
              have H:=HA.out
              clear HA
              simp only [fleuronlaw19_ScanMoved.l2] at H
              by_cases c82:x156_4<40
              ·rw [if_pos c82] at H
               have c82b0:decide (x156_4<40)=true:=decide_eq_true c82
               clear c82
               replace H:=Option.bind_eq_some_iff.mp H
               obtain ⟨t500,A830,H⟩:=H
               replace H:((fleuronlaw19_in.f k4 t494 (wrap64 (x156_4+(wrap64 (Int.tmod (IntKind.u64.wrap (a2_0)) 20))))).bind fun t501=>(if (t500 != t501)=true then (some false) else (fleuronlaw19_ScanMoved.l2 k4 (wrap64 (Int.tmod (IntKind.u64.wrap (a2_0)) 20)) t475 t494 t495 (wrap64 (x156_4+1)))))=some r:=H
               have A83:=aK A830
               clear A830
               replace H:=Option.bind_eq_some_iff.mp H
               obtain ⟨t501,A840,H⟩:=H
               replace H:(if (t500 != t501)=true then (some false) else (fleuronlaw19_ScanMoved.l2 k4 (wrap64 (Int.tmod (IntKind.u64.wrap (a2_0)) 20)) t475 t494 t495 (wrap64 (x156_4+1))))=some r:=H
               have A84:=aK A840
               clear A840
               by_cases c85:(t500 != t501)=true
               ·rw [if_pos c85] at H
                have c85b0:(t500 != t501)=true:=c85
                (try (have c85b1:decide (t500=t501)=false:=by simpa using c85))
                (try (have c85b2:(t500 == t501)=false:=by simpa using c85))
                (try (have c85b3 : ¬ (t500=t501):=by simpa using c85))
                clear c85
                obtain rfl:=Option.some.inj H
                obtain ⟨Ao86,co86,eo86⟩:=Kd.R_slice HO_10.out
                subst eo86
                go_wp2_with (first|(go_at_call 28;(with_reducible refine (fleuronlaw19_in.calls k4 _ _ t475 x156_4 t500 _ ?side1 ?side2 A83.out).mono ?_);(case side1=>repeat (first|exact (Kd.R_reads' HO_10.out).2.2|(with_reducible refine Kd.C_alloc ?_ _)|(with_reducible refine Kd.C_drewN ?_ _)|(with_reducible refine Kd.C_drew ?_)));(case side2=>exact (Kd.R_reads' HO_10.out).2.1);rintro e w87 ⟨rfl,hb⟩;have n0_:=aK (Kd.R_below (by (with_reducible repeat (first|apply Kd.R_alloc|apply Kd.R_drewN|apply Kd.R_drew));exact HO_10.out) hb);have n1_:=aK (Kd.R_below (by (with_reducible repeat (first|apply Kd.R_alloc|apply Kd.R_drewN|apply Kd.R_drew));exact HO_20.out) hb);have n2_:=aK (blk_below (g:=gb471) (o:=.cells #[.int .i64 a2_0,.int .i64 a2_1,.int .i64 a2_2] 43 (0,0)) (by (with_reducible repeat (first|refine blk_drewN ?_ _|refine blk_drew ?_|refine blk_alloc ?_ _));exact BK471.out) hb);have n3_:=aK (blk_below (g:=gb491) (o:=.cells #[.int .i64 t488,.int .i64 t489] 23 (0,0)) (by (with_reducible repeat (first|refine blk_drewN ?_ _|refine blk_drew ?_|refine blk_alloc ?_ _));exact BK491.out) hb);have n4_:=aK (below_step (by repeat (first|(with_reducible first|exact HB.out|apply below_alloc|apply pw_below_drewN|apply below_drew1|refine below_set ?_ GE471.out|refine below_set ?_ GE491.out)|exact HB.out)) hb);clear HO_10;clear HO_20;clear BK471;clear BK491;clear HB;have HO_10:=n0_;have HO_20:=n1_;have BK471:=n2_;have BK491:=n3_;have HB:=n4_;clear n0_ n1_ n2_ n3_ n4_;(try clear hb);(try clear hb2);(try clear hk);(try clear hi);obtain ⟨Ao88,co88,eo88⟩:=Kd.R_slice HO_20.out;subst eo88)|(go_at_call 28;(with_reducible refine (fleuronlaw19_in.calls k4 _ _ t494 (wrap64 (x156_4+(wrap64 (Int.tmod (IntKind.u64.wrap (a2_0)) 20)))) t501 _ ?side1 ?side2 A84.out).mono ?_);(case side1=>repeat (first|exact (Kd.R_reads' HO_20.out).2.2|(with_reducible refine Kd.C_alloc ?_ _)|(with_reducible refine Kd.C_drewN ?_ _)|(with_reducible refine Kd.C_drew ?_)));(case side2=>exact (Kd.R_reads' HO_20.out).2.1);rintro e w89 ⟨rfl,hb⟩;have n0_:=aK (Kd.R_below (by (with_reducible repeat (first|apply Kd.R_alloc|apply Kd.R_drewN|apply Kd.R_drew));exact HO_10.out) hb);have n1_:=aK (Kd.R_below (by (with_reducible repeat (first|apply Kd.R_alloc|apply Kd.R_drewN|apply Kd.R_drew));exact HO_20.out) hb);have n2_:=aK (blk_below (g:=gb471) (o:=.cells #[.int .i64 a2_0,.int .i64 a2_1,.int .i64 a2_2] 43 (0,0)) (by (with_reducible repeat (first|refine blk_drewN ?_ _|refine blk_drew ?_|refine blk_alloc ?_ _));exact BK471.out) hb);have n3_:=aK (blk_below (g:=gb491) (o:=.cells #[.int .i64 t488,.int .i64 t489] 23 (0,0)) (by (with_reducible repeat (first|refine blk_drewN ?_ _|refine blk_drew ?_|refine blk_alloc ?_ _));exact BK491.out) hb);have n4_:=aK (below_step (by repeat (first|(with_reducible first|exact HB.out|apply below_alloc|apply pw_below_drewN|apply below_drew1|refine below_set ?_ GE471.out|refine below_set ?_ GE491.out)|exact HB.out)) hb);clear HO_10;clear HO_20;clear BK471;clear BK491;clear HB;have HO_10:=n0_;have HO_20:=n1_;have BK471:=n2_;have BK491:=n3_;have HB:=n4_;clear n0_ n1_ n2_ n3_ n4_;(try clear hb);(try clear hb2);(try clear hk);(try clear hi)))
                repeat (go_quiet (fail);try go_wp2_with (fail))
                go_ret
                exact ⟨by first|rfl|(simp [errW_none,errW_some] <;> rfl)|(simp [*,errW_none,errW_some] <;> rfl),by repeat (first|(with_reducible first|exact HB.out|apply below_alloc|apply pw_below_drewN|apply below_drew1|refine below_set ?_ GE471.out|refine below_set ?_ GE491.out)|exact HB.out)⟩
               ·rw [if_neg c85] at H
                have c85b0:(t500 != t501)=false:=by simpa using c85
                (try (have c85b1:decide (t500=t501)=true:=by simpa using c85))
                (try (have c85b2:(t500 == t501)=true:=by simpa using c85))
                clear c85
                have H':=aK H
                clear H
                obtain ⟨Ao90,co90,eo90⟩:=Kd.R_slice HO_10.out
                subst eo90
                go_wp2_with (first|(go_at_call 28;(with_reducible refine (fleuronlaw19_in.calls k4 _ _ t475 x156_4 t500 _ ?side1 ?side2 A83.out).mono ?_);(case side1=>repeat (first|exact (Kd.R_reads' HO_10.out).2.2|(with_reducible refine Kd.C_alloc ?_ _)|(with_reducible refine Kd.C_drewN ?_ _)|(with_reducible refine Kd.C_drew ?_)));(case side2=>exact (Kd.R_reads' HO_10.out).2.1);rintro e w91 ⟨rfl,hb⟩;have n0_:=aK (Kd.R_below (by (with_reducible repeat (first|apply Kd.R_alloc|apply Kd.R_drewN|apply Kd.R_drew));exact HO_10.out) hb);have n1_:=aK (Kd.R_below (by (with_reducible repeat (first|apply Kd.R_alloc|apply Kd.R_drewN|apply Kd.R_drew));exact HO_20.out) hb);have n2_:=aK (blk_below (g:=gb471) (o:=.cells #[.int .i64 a2_0,.int .i64 a2_1,.int .i64 a2_2] 43 (0,0)) (by (with_reducible repeat (first|refine blk_drewN ?_ _|refine blk_drew ?_|refine blk_alloc ?_ _));exact BK471.out) hb);have n3_:=aK (blk_below (g:=gb491) (o:=.cells #[.int .i64 t488,.int .i64 t489] 23 (0,0)) (by (with_reducible repeat (first|refine blk_drewN ?_ _|refine blk_drew ?_|refine blk_alloc ?_ _));exact BK491.out) hb);have n4_:=aK (below_step (by repeat (first|(with_reducible first|exact HB.out|apply below_alloc|apply pw_below_drewN|apply below_drew1|refine below_set ?_ GE471.out|refine below_set ?_ GE491.out)|exact HB.out)) hb);clear HO_10;clear HO_20;clear BK471;clear BK491;clear HB;have HO_10:=n0_;have HO_20:=n1_;have BK471:=n2_;have BK491:=n3_;have HB:=n4_;clear n0_ n1_ n2_ n3_ n4_;(try clear hb);(try clear hb2);(try clear hk);(try clear hi);obtain ⟨Ao92,co92,eo92⟩:=Kd.R_slice HO_20.out;subst eo92)|(go_at_call 28;(with_reducible refine (fleuronlaw19_in.calls k4 _ _ t494 (wrap64 (x156_4+(wrap64 (Int.tmod (IntKind.u64.wrap (a2_0)) 20)))) t501 _ ?side1 ?side2 A84.out).mono ?_);(case side1=>repeat (first|exact (Kd.R_reads' HO_20.out).2.2|(with_reducible refine Kd.C_alloc ?_ _)|(with_reducible refine Kd.C_drewN ?_ _)|(with_reducible refine Kd.C_drew ?_)));(case side2=>exact (Kd.R_reads' HO_20.out).2.1);rintro e w93 ⟨rfl,hb⟩;have n0_:=aK (Kd.R_below (by (with_reducible repeat (first|apply Kd.R_alloc|apply Kd.R_drewN|apply Kd.R_drew));exact HO_10.out) hb);have n1_:=aK (Kd.R_below (by (with_reducible repeat (first|apply Kd.R_alloc|apply Kd.R_drewN|apply Kd.R_drew));exact HO_20.out) hb);have n2_:=aK (blk_below (g:=gb471) (o:=.cells #[.int .i64 a2_0,.int .i64 a2_1,.int .i64 a2_2] 43 (0,0)) (by (with_reducible repeat (first|refine blk_drewN ?_ _|refine blk_drew ?_|refine blk_alloc ?_ _));exact BK471.out) hb);have n3_:=aK (blk_below (g:=gb491) (o:=.cells #[.int .i64 t488,.int .i64 t489] 23 (0,0)) (by (with_reducible repeat (first|refine blk_drewN ?_ _|refine blk_drew ?_|refine blk_alloc ?_ _));exact BK491.out) hb);have n4_:=aK (below_step (by repeat (first|(with_reducible first|exact HB.out|apply below_alloc|apply pw_below_drewN|apply below_drew1|refine below_set ?_ GE471.out|refine below_set ?_ GE491.out)|exact HB.out)) hb);clear HO_10;clear HO_20;clear BK471;clear BK491;clear HB;have HO_10:=n0_;have HO_20:=n1_;have BK471:=n2_;have BK491:=n3_;have HB:=n4_;clear n0_ n1_ n2_ n3_ n4_;(try clear hb);(try clear hb2);(try clear hk);(try clear hi)))
                repeat (go_quiet (fail);try go_wp2_with (fail))
                go_roundg k4
                case measure=>have:=HJ3.out;have:=HK2.out;have:=HJ34.out;have:=HK4.out;omega
                case rel=>exact ⟨(wrap64 (x156_4+1)),(by first|rfl|(simp;done)|(simp [*];done)),H',⟨by have:=HJ3.out;have:=HK2.out;have:=HJ34.out;have:=HK4.out;omega⟩,⟨by (with_reducible repeat (first|apply Kd.R_alloc|apply Kd.R_drewN|apply Kd.R_drew));exact HO_10.out⟩,⟨by (with_reducible repeat (first|apply Kd.R_alloc|apply Kd.R_drewN|apply Kd.R_drew));exact HO_20.out⟩,⟨by (with_reducible repeat (first|refine blk_drewN ?_ _|refine blk_drew ?_|refine blk_alloc ?_ _));exact BK471.out⟩,⟨by (with_reducible repeat (first|refine blk_drewN ?_ _|refine blk_drew ?_|refine blk_alloc ?_ _));exact BK491.out⟩,⟨by repeat (first|(with_reducible first|exact HB.out|apply below_alloc|apply pw_below_drewN|apply below_drew1|refine below_set ?_ GE471.out|refine below_set ?_ GE491.out)|exact HB.out)⟩⟩
              ·rw [if_neg c82] at H
               have c82b0:decide (x156_4<40)=false:=decide_eq_false c82
               clear c82
               by_cases c94:t495=0
               ·rw [if_pos c94] at H
                have c94b0:(t495 == 0)=true:=beq_iff_eq.mpr c94
                have c94b1:(t495 != 0)=false:=bne_eq_false_iff_eq.mpr c94
                clear c94
                replace H:=Option.bind_eq_some_iff.mp H
                obtain ⟨t498,A950,H⟩:=H
                replace H:(if t498=true then ((fleuronlaw19_awake.f).bind fun t499=>(some t499)) else (some false))=some r:=H
                have A95:=aK A950
                clear A950
                by_cases c96:t498=true
                ·subst c96
                 have H1:((fleuronlaw19_awake.f).bind fun t499=>(some t499))=some r:=by rw [if_pos rfl] at H;exact H
                 clear H
                 have H:=H1
                 clear H1
                 replace H:=Option.bind_eq_some_iff.mp H
                 obtain ⟨t499,A970,H⟩:=H
                 replace H:(some t499)=some r:=H
                 have A97:=aK A970
                 clear A970
                 obtain rfl:=Option.some.inj H
                 go_wp2_with (first|(go_at_call 29;(refine (fleuronref16_All.calls k4 _ _ ([]:List (S47)) true _ ?side1 ?side2 A95.out).mono ?_);(case side1=>exact Kd.C_nil _ _);(case side2=>exact Nat.le_refl _);rintro e w98 ⟨rfl,hb⟩;have n0_:=aK (Kd.R_below (by (with_reducible repeat (first|apply Kd.R_alloc|apply Kd.R_drewN|apply Kd.R_drew));exact HO_10.out) hb);have n1_:=aK (Kd.R_below (by (with_reducible repeat (first|apply Kd.R_alloc|apply Kd.R_drewN|apply Kd.R_drew));exact HO_20.out) hb);have n2_:=aK (blk_below (g:=gb471) (o:=.cells #[.int .i64 a2_0,.int .i64 a2_1,.int .i64 a2_2] 43 (0,0)) (by (with_reducible repeat (first|refine blk_drewN ?_ _|refine blk_drew ?_|refine blk_alloc ?_ _));exact BK471.out) hb);have n3_:=aK (blk_below (g:=gb491) (o:=.cells #[.int .i64 t488,.int .i64 t489] 23 (0,0)) (by (with_reducible repeat (first|refine blk_drewN ?_ _|refine blk_drew ?_|refine blk_alloc ?_ _));exact BK491.out) hb);have n4_:=aK (below_step (by repeat (first|(with_reducible first|exact HB.out|apply below_alloc|apply pw_below_drewN|apply below_drew1|refine below_set ?_ GE471.out|refine below_set ?_ GE491.out)|exact HB.out)) hb);clear HO_10;clear HO_20;clear BK471;clear BK491;clear HB;have HO_10:=n0_;have HO_20:=n1_;have BK471:=n2_;have BK491:=n3_;have HB:=n4_;clear n0_ n1_ n2_ n3_ n4_;(try clear hb);(try clear hb2);(try clear hk);(try clear hi))|(go_at_call 9;(with_reducible refine (fleuronlaw19_awake.calls  t499 _ A97.out).mono ?_);rintro e w99 ⟨rfl,hb⟩;have n0_:=aK (Kd.R_below (by (with_reducible repeat (first|apply Kd.R_alloc|apply Kd.R_drewN|apply Kd.R_drew));exact HO_10.out) hb);have n1_:=aK (Kd.R_below (by (with_reducible repeat (first|apply Kd.R_alloc|apply Kd.R_drewN|apply Kd.R_drew));exact HO_20.out) hb);have n2_:=aK (blk_below (g:=gb471) (o:=.cells #[.int .i64 a2_0,.int .i64 a2_1,.int .i64 a2_2] 43 (0,0)) (by (with_reducible repeat (first|refine blk_drewN ?_ _|refine blk_drew ?_|refine blk_alloc ?_ _));exact BK471.out) hb);have n3_:=aK (blk_below (g:=gb491) (o:=.cells #[.int .i64 t488,.int .i64 t489] 23 (0,0)) (by (with_reducible repeat (first|refine blk_drewN ?_ _|refine blk_drew ?_|refine blk_alloc ?_ _));exact BK491.out) hb);have n4_:=aK (below_step (by repeat (first|(with_reducible first|exact HB.out|apply below_alloc|apply pw_below_drewN|apply below_drew1|refine below_set ?_ GE471.out|refine below_set ?_ GE491.out)|exact HB.out)) hb);clear HO_10;clear HO_20;clear BK471;clear BK491;clear HB;have HO_10:=n0_;have HO_20:=n1_;have BK471:=n2_;have BK491:=n3_;have HB:=n4_;clear n0_ n1_ n2_ n3_ n4_;(try clear hb);(try clear hb2);(try clear hk);(try clear hi)))
                 repeat (go_quiet (fail);try go_wp2_with (fail))
                 go_ret
                 exact ⟨by first|rfl|(simp [errW_none,errW_some] <;> rfl)|(simp [*,errW_none,errW_some] <;> rfl),by repeat (first|(with_reducible first|exact HB.out|apply below_alloc|apply pw_below_drewN|apply below_drew1|refine below_set ?_ GE471.out|refine below_set ?_ GE491.out)|exact HB.out)⟩
                ·replace c96:=Bool.eq_false_iff.mpr c96
                 subst c96
                 have H1:(some false)=some r:=by rw [if_neg (show ¬ (false=true) by decide)] at H;exact H
                 clear H
                 have H:=H1
                 clear H1
                 obtain rfl:=Option.some.inj H
                 go_wp2_with (go_at_call 29;(refine (fleuronref16_All.calls k4 _ _ ([]:List (S47)) false _ ?side1 ?side2 A95.out).mono ?_);(case side1=>exact Kd.C_nil _ _);(case side2=>exact Nat.le_refl _);rintro e w100 ⟨rfl,hb⟩;have n0_:=aK (Kd.R_below (by (with_reducible repeat (first|apply Kd.R_alloc|apply Kd.R_drewN|apply Kd.R_drew));exact HO_10.out) hb);have n1_:=aK (Kd.R_below (by (with_reducible repeat (first|apply Kd.R_alloc|apply Kd.R_drewN|apply Kd.R_drew));exact HO_20.out) hb);have n2_:=aK (blk_below (g:=gb471) (o:=.cells #[.int .i64 a2_0,.int .i64 a2_1,.int .i64 a2_2] 43 (0,0)) (by (with_reducible repeat (first|refine blk_drewN ?_ _|refine blk_drew ?_|refine blk_alloc ?_ _));exact BK471.out) hb);have n3_:=aK (blk_below (g:=gb491) (o:=.cells #[.int .i64 t488,.int .i64 t489] 23 (0,0)) (by (with_reducible repeat (first|refine blk_drewN ?_ _|refine blk_drew ?_|refine blk_alloc ?_ _));exact BK491.out) hb);have n4_:=aK (below_step (by repeat (first|(with_reducible first|exact HB.out|apply below_alloc|apply pw_below_drewN|apply below_drew1|refine below_set ?_ GE471.out|refine below_set ?_ GE491.out)|exact HB.out)) hb);clear HO_10;clear HO_20;clear BK471;clear BK491;clear HB;have HO_10:=n0_;have HO_20:=n1_;have BK471:=n2_;have BK491:=n3_;have HB:=n4_;clear n0_ n1_ n2_ n3_ n4_;(try clear hb);(try clear hb2);(try clear hk);(try clear hi))
                 repeat (go_quiet (fail);try go_wp2_with (fail))
                 go_ret
                 exact ⟨by first|rfl|(simp [errW_none,errW_some] <;> rfl)|(simp [*,errW_none,errW_some] <;> rfl),by repeat (first|(with_reducible first|exact HB.out|apply below_alloc|apply pw_below_drewN|apply below_drew1|refine below_set ?_ GE471.out|refine below_set ?_ GE491.out)|exact HB.out)⟩
               ·rw [if_neg c94] at H
                have c94b0:(t495 == 0)=false:=beq_eq_false_iff_ne.mpr c94
                have c94b1:(t495 != 0)=true:=bne_iff_ne.mpr c94
                obtain rfl:=Option.some.inj H
                go_wp2
                repeat (go_quiet (fail);try go_wp2)
                go_ret
                exact ⟨by first|rfl|(simp [errW_none,errW_some] <;> rfl)|(simp [*,errW_none,errW_some] <;> rfl),by repeat (first|(with_reducible first|exact HB.out|apply below_alloc|apply pw_below_drewN|apply below_drew1|refine below_set ?_ GE471.out|refine below_set ?_ GE491.out)|exact HB.out)⟩
           ·replace c77:=Bool.eq_false_iff.mpr c77
            subst c77
            have H1:((fleuronlaw19_awake.f).bind fun t493=>(some t493))=some r:=by rw [if_neg (show ¬ (false=true) by decide)] at H;exact H
            clear H
            have H:=H1
            clear H1
            replace H:=Option.bind_eq_some_iff.mp H
            obtain ⟨t493,A1010,H⟩:=H
            replace H:(some t493)=some r:=H
            have A101:=aK A1010
            clear A1010
            obtain rfl:=Option.some.inj H
            obtain ⟨Ao102,co102,eo102⟩:=Kd.S_slice HO_12.out
            subst eo102
            go_wp2_with (first|(go_at_call 27;(with_reducible refine (fleuronref17_Some.calls kj34 _ _ x12_2 false _ ?side1 ?side2 A76.out).mono ?_);(case side1=>repeat (first|exact (Kd.S_reads' HO_12.out).2.2|(with_reducible refine Kd.C_alloc ?_ _)|(with_reducible refine Kd.C_drewN ?_ _)|(with_reducible refine Kd.C_drew ?_)));(case side2=>exact (Kd.S_reads' HO_12.out).2.1);rintro e w103 ⟨rfl,hb⟩;have n0_:=aK (Kd.R_below (by (with_reducible repeat (first|apply Kd.R_alloc|apply Kd.R_drewN|apply Kd.R_drew));exact HO_10.out) hb);have n1_:=aK (Kd.S_below (by (with_reducible repeat (first|apply Kd.S_alloc|apply Kd.S_drewN|apply Kd.S_drew));exact HO_12.out) hb);have n2_:=aK (blk_below (g:=gb471) (o:=.cells #[.int .i64 a2_0,.int .i64 a2_1,.int .i64 a2_2] 43 (0,0)) (by (with_reducible repeat (first|refine blk_drewN ?_ _|refine blk_drew ?_|refine blk_alloc ?_ _));exact BK471.out) hb);have n3_:=aK (blk_below (g:=gb491) (o:=.cells #[.int .i64 t488,.int .i64 t489] 23 (0,0)) (by (with_reducible repeat (first|refine blk_drewN ?_ _|refine blk_drew ?_|refine blk_alloc ?_ _));exact BK491.out) hb);have n4_:=aK (below_step (by repeat (first|(with_reducible first|exact HB.out|apply below_alloc|apply pw_below_drewN|apply below_drew1|refine below_set ?_ GE471.out|refine below_set ?_ GE491.out)|exact HB.out)) hb);clear HO_10;clear HO_12;clear BK471;clear BK491;clear HB;have HO_10:=n0_;have HO_12:=n1_;have BK471:=n2_;have BK491:=n3_;have HB:=n4_;clear n0_ n1_ n2_ n3_ n4_;(try clear hb);(try clear hb2);(try clear hk);(try clear hi))|(go_at_call 9;(with_reducible refine (fleuronlaw19_awake.calls  t493 _ A101.out).mono ?_);rintro e w104 ⟨rfl,hb⟩;have n0_:=aK (Kd.R_below (by (with_reducible repeat (first|apply Kd.R_alloc|apply Kd.R_drewN|apply Kd.R_drew));exact HO_10.out) hb);have n1_:=aK (Kd.S_below (by (with_reducible repeat (first|apply Kd.S_alloc|apply Kd.S_drewN|apply Kd.S_drew));exact HO_12.out) hb);have n2_:=aK (blk_below (g:=gb471) (o:=.cells #[.int .i64 a2_0,.int .i64 a2_1,.int .i64 a2_2] 43 (0,0)) (by (with_reducible repeat (first|refine blk_drewN ?_ _|refine blk_drew ?_|refine blk_alloc ?_ _));exact BK471.out) hb);have n3_:=aK (blk_below (g:=gb491) (o:=.cells #[.int .i64 t488,.int .i64 t489] 23 (0,0)) (by (with_reducible repeat (first|refine blk_drewN ?_ _|refine blk_drew ?_|refine blk_alloc ?_ _));exact BK491.out) hb);have n4_:=aK (below_step (by repeat (first|(with_reducible first|exact HB.out|apply below_alloc|apply pw_below_drewN|apply below_drew1|refine below_set ?_ GE471.out|refine below_set ?_ GE491.out)|exact HB.out)) hb);clear HO_10;clear HO_12;clear BK471;clear BK491;clear HB;have HO_10:=n0_;have HO_12:=n1_;have BK471:=n2_;have BK491:=n3_;have HB:=n4_;clear n0_ n1_ n2_ n3_ n4_;(try clear hb);(try clear hb2);(try clear hk);(try clear hi)))
            repeat (go_quiet (fail);try go_wp2_with (fail))
            go_ret
            exact ⟨by first|rfl|(simp [errW_none,errW_some] <;> rfl)|(simp [*,errW_none,errW_some] <;> rfl),by repeat (first|(with_reducible first|exact HB.out|apply below_alloc|apply pw_below_drewN|apply below_drew1|refine below_set ?_ GE471.out|refine below_set ?_ GE491.out)|exact HB.out)⟩
       ·rw [if_neg c33] at H
        have c33b0:(t476 == 0)=false:=beq_eq_false_iff_ne.mpr c33
        have c33b1:(t476 != 0)=true:=bne_iff_ne.mpr c33
        obtain rfl:=Option.some.inj H
        go_wp2
        repeat (go_quiet (fail);try go_wp2)
        go_ret
        exact ⟨by first|rfl|(simp [errW_none,errW_some] <;> rfl)|(simp [*,errW_none,errW_some] <;> rfl),by repeat (first|(with_reducible first|exact HB.out|apply below_alloc|apply pw_below_drewN|apply below_drew1|refine below_set ?_ GE471.out)|exact HB.out)⟩
end Go.Proofs.YtckjlckhjcbddaaGreat.PG3
