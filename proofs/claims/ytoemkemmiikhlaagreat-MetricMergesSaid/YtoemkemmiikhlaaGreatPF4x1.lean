import Derived.Test.YtoemkemmiikhlaaGreatPF4x0
set_option maxRecDepth 100000
namespace Go.Proofs.YtoemkemmiikhlaaGreat.PF4
open Go.RowKit Go.Proofs.YtoemkemmiikhlaaGreatW.PrintWords Go.Proofs.YtoemkemmiikhlaaGreatW.PrintLast Go.Proofs.YtoemkemmiikhlaaGreatW.PrintMore
attribute [local go_sem] max2_int min2_int max_two min_two max_three min_three max_four min_four
set_option linter.unusedVariables false
set_option linter.unusedSimpArgs false
def fleuronlaw27_few.l0 : Nat → List (S25) → Int → Int → Option (Bool)
 | 0,_,_,_=>none
 | k+1,x5,x6,x7=>if x7<x6 then (if 0≤x7 then (if x7<(x5.length:Int) then (if (((rd_T25 x5 x7).f1).length:Int)>300 then (some false) else (if (((rd_T25 x5 x7).f2).length:Int)>600 then (some false) else (fleuronlaw27_few.l0 k x5 x6 (wrap64 (x7+1))))) else (none)) else (none)) else (some true)
def fleuronlaw27_few.f (k:Nat) (l0:List (S25)):Option (Bool):=fleuronlaw27_few.l0 k l0 (l0.length:Int) 0
theorem fleuronlaw27_few.mono_l : ∀ k, (∀ y0 y1 y2, LeO (fleuronlaw27_few.l0 k y0 y1 y2) (fleuronlaw27_few.l0 (k + 1) y0 y1 y2))
 | 0=>fun _ _ _ r h=>by simp [fleuronlaw27_few.l0] at h
 | k+1=>by
  have ih0:=fleuronlaw27_few.mono_l k
  ·intro y0 y1 y2
   unfold fleuronlaw27_few.l0
   repeat' first
   | (with_reducible exact ih0 _ _ _)
   | (with_reducible exact LeO.refl _)
   | (with_reducible exact LeO.none _)
   | (with_reducible refine LeO.ite ?_ ?_)
   | (with_reducible refine LeO.bind ?_ (fun _=>?_))
   | exact ih0 _ _ _
   | exact LeO.none _
   | refine LeO.ite ?_ ?_
   | refine LeO.bind ?_ (fun _=>?_)
theorem fleuronlaw27_few.mono : ∀ a0 k,LeO (fleuronlaw27_few.f k a0) (fleuronlaw27_few.f (k+1) a0):=by
 intro a0 k
 have ih0:=fleuronlaw27_few.mono_l k
 unfold fleuronlaw27_few.f
 repeat' first
   | (with_reducible exact ih0 _ _ _)
   | (with_reducible exact LeO.refl _)
   | (with_reducible exact LeO.none _)
   | (with_reducible refine LeO.ite ?_ ?_)
   | (with_reducible refine LeO.bind ?_ (fun _=>?_))
   | exact ih0 _ _ _
   | exact LeO.none _
   | refine LeO.ite ?_ ?_
   | refine LeO.bind ?_ (fun _=>?_)
set_option maxHeartbeats 8000000 in
theorem fleuronlaw27_few.calls (k : Nat) (A0 : Option Addr) (c0 : Nat) (l0 : List (S25)) (r : Bool) (w : World) (hr0 : Kd.C k25 w A0 l0.length l0) (hc0 : l0.length ≤ c0) (h : fleuronlaw27_few.f k l0 = some r) :
  Calls Tryz.prog 9 #[.slice A0 l0.length c0] w fun e w'=>e = .returned (.bool r)∧Below w.heap.size w w':=by
 have hu25:=Tryz.underlying25
 have HR0:=aK hr0
 have HC0:=aK hc0
 clear hr0 hc0
 have HB:=aK (Below.refl w.heap.size w)
 have H:(fleuronlaw27_few.l0 k l0 (l0.length:Int) 0)=some r:=h
 clear h
 have H':=aK H
 clear H
 go_enter Tryz.func9,Tryz.ntmps9
 go_wp2
 go_loopg [7] k (fun kq v7 w'=>∃ (x7_1:Int),v7 = .int .i64 x7_1∧Aside0 (fleuronlaw27_few.l0 kq l0 (l0.length:Int) x7_1=some r)∧Aside0 (kq≤k)∧Aside0 (Below w.heap.size w w'))
 case atStart=>exact ⟨(0),(by first|rfl|(simp;done)|(simp [*];done)),H',⟨Nat.le_refl _⟩,⟨by repeat (first|(with_reducible first|exact HB.out|apply below_alloc|apply pw_below_drewN|apply below_drew1)|exact HB.out)⟩⟩
 case round =>
  clear H'
  obtain ⟨x7_1,rfl,HA,HK1,HB⟩:=hrel
  cases gk with
  | zero=>exact absurd HA.out (by simp [fleuronlaw27_few.l0])
  | succ k1 =>
   have H:=HA.out
   clear HA
   simp only [fleuronlaw27_few.l0] at H
   by_cases c2:x7_1<(l0.length:Int)
   ·rw [if_pos c2] at H
    have c2b0:decide (x7_1<(l0.length:Int))=true:=decide_eq_true c2
    clear c2
    by_cases c3:0≤x7_1
    ·rw [if_pos c3] at H
     have c3b0:decide (0≤x7_1)=true:=decide_eq_true c3
     clear c3
     by_cases c4:x7_1<(l0.length:Int)
     ·rw [if_pos c4] at H
      have c4b0:decide (x7_1<(l0.length:Int))=true:=decide_eq_true c4
      clear c4
      by_cases c5:(((rd_T25 l0 x7_1).f1).length:Int)>300
      ·rw [if_pos c5] at H
       have c5b0:decide (300<(((rd_T25 l0 x7_1).f1).length:Int))=true:=decide_eq_true c5
       have c5b1:decide (300<((rd_T25 l0 x7_1).f1).length)=true:=decide_eq_true (by omega)
       clear c5
       obtain rfl:=Option.some.inj H
       have p101:0≤(x7_1:Int):=of_decide_eq_true (by first|(with_reducible assumption)|assumption)
       have q101:x7_1<(l0.length:Int):=of_decide_eq_true (by first|(with_reducible assumption)|assumption)
       obtain ⟨ad101,A101_1,c101_1,A101_2,c101_2,e101,hx101_0,hx101_1,hx101_2,hl101_1,hi101_1,hl101_2,hi101_2⟩:=at_T25 HR0.out x7_1 p101 q101
       cases e101
       replace hx101_0:=(HB.out.cell (World.block_lt_of_cell? w _ hx101_0)).trans hx101_0
       replace hx101_1:=(HB.out.cell (World.block_lt_of_cell? w _ hx101_1)).trans hx101_1
       replace hx101_2:=(HB.out.cell (World.block_lt_of_cell? w _ hx101_2)).trans hx101_2
       have HR101_1:=aK hi101_1
       have HC101_1:=aK hl101_1
       clear hi101_1 hl101_1
       have HR101_2:=aK hi101_2
       have HC101_2:=aK hl101_2
       clear hi101_2 hl101_2
       replace p101:=eq_true p101
       replace q101:=eq_true q101
       go_wp2_with (first|((with_reducible refine gate_dst (N:=4) rfl ?_);refine box_event ?hg (N:=4) ?hd (cs:=#[.int .i64 0,.slice none 0 0,.slice none 0 0]) (t:=25) ?hr ?_;(case hd=>rfl);(case hg=>rfl);(case hr=>first|(go_simp;done)|(go_simp;rfl));intro gb102 hg w6 hbox hb;have n0_:=aK (below_step (by repeat (first|(with_reducible first|exact HB.out|apply below_alloc|apply pw_below_drewN|apply below_drew1)|exact HB.out)) hb);have n1_:=aK (hbox);have n2_:=aK ((by rw [hg];exact (below_size (by repeat (first|(with_reducible first|exact HB.out|apply below_alloc|apply pw_below_drewN|apply below_drew1)|exact HB.out))):w.heap.size≤gb102));have n3_:=n2_;clear HB;have HB:=n0_;have BK102:=n1_;have GW102:=n2_;have GE102:=n3_;clear n0_ n1_ n2_ n3_;clear hb hbox hg;have hcz7_0:w6.cell? ⟨gb102,0,none⟩=some (.int .i64 0):=(blk_cell BK102.out 0).trans rfl;have hcz7_1:w6.cell? ⟨gb102,1,none⟩=some (.slice none 0 0):=(blk_cell BK102.out 1).trans rfl;have hcz7_2:w6.cell? ⟨gb102,2,none⟩=some (.slice none 0 0):=(blk_cell BK102.out 2).trans rfl;have hfz7_0:=blk_frozen BK102.out 0;have hfz7_1:=blk_frozen BK102.out 1;have hfz7_2:=blk_frozen BK102.out 2))
       go_ret
       exact ⟨by first|rfl|(simp [errW_none,errW_some] <;> rfl)|(simp [*,errW_none,errW_some] <;> rfl),by repeat (first|(with_reducible first|exact HB.out|apply below_alloc|apply pw_below_drewN|apply below_drew1|refine below_set ?_ GE102.out)|exact HB.out)⟩
      ·rw [if_neg c5] at H
       have c5b0:decide (300<(((rd_T25 l0 x7_1).f1).length:Int))=false:=decide_eq_false c5
       have c5b1:decide (300<((rd_T25 l0 x7_1).f1).length)=false:=decide_eq_false (by omega)
       clear c5
       by_cases c8:(((rd_T25 l0 x7_1).f2).length:Int)>600
       ·rw [if_pos c8] at H
        have c8b0:decide (600<(((rd_T25 l0 x7_1).f2).length:Int))=true:=decide_eq_true c8
        have c8b1:decide (600<((rd_T25 l0 x7_1).f2).length)=true:=decide_eq_true (by omega)
        clear c8
        obtain rfl:=Option.some.inj H
        have p101:0≤(x7_1:Int):=of_decide_eq_true (by first|(with_reducible assumption)|assumption)
        have q101:x7_1<(l0.length:Int):=of_decide_eq_true (by first|(with_reducible assumption)|assumption)
        obtain ⟨ad101,A101_1,c101_1,A101_2,c101_2,e101,hx101_0,hx101_1,hx101_2,hl101_1,hi101_1,hl101_2,hi101_2⟩:=at_T25 HR0.out x7_1 p101 q101
        cases e101
        replace hx101_0:=(HB.out.cell (World.block_lt_of_cell? w _ hx101_0)).trans hx101_0
        replace hx101_1:=(HB.out.cell (World.block_lt_of_cell? w _ hx101_1)).trans hx101_1
        replace hx101_2:=(HB.out.cell (World.block_lt_of_cell? w _ hx101_2)).trans hx101_2
        have HR101_1:=aK hi101_1
        have HC101_1:=aK hl101_1
        clear hi101_1 hl101_1
        have HR101_2:=aK hi101_2
        have HC101_2:=aK hl101_2
        clear hi101_2 hl101_2
        replace p101:=eq_true p101
        replace q101:=eq_true q101
        go_wp2_with (first|((with_reducible refine gate_dst (N:=4) rfl ?_);refine box_event ?hg (N:=4) ?hd (cs:=#[.int .i64 0,.slice none 0 0,.slice none 0 0]) (t:=25) ?hr ?_;(case hd=>rfl);(case hg=>rfl);(case hr=>first|(go_simp;done)|(go_simp;rfl));intro gb102 hg w9 hbox hb;have n0_:=aK (below_step (by repeat (first|(with_reducible first|exact HB.out|apply below_alloc|apply pw_below_drewN|apply below_drew1)|exact HB.out)) hb);have n1_:=aK (hbox);have n2_:=aK ((by rw [hg];exact (below_size (by repeat (first|(with_reducible first|exact HB.out|apply below_alloc|apply pw_below_drewN|apply below_drew1)|exact HB.out))):w.heap.size≤gb102));have n3_:=n2_;clear HB;have HB:=n0_;have BK102:=n1_;have GW102:=n2_;have GE102:=n3_;clear n0_ n1_ n2_ n3_;clear hb hbox hg;have hcz10_0:w9.cell? ⟨gb102,0,none⟩=some (.int .i64 0):=(blk_cell BK102.out 0).trans rfl;have hcz10_1:w9.cell? ⟨gb102,1,none⟩=some (.slice none 0 0):=(blk_cell BK102.out 1).trans rfl;have hcz10_2:w9.cell? ⟨gb102,2,none⟩=some (.slice none 0 0):=(blk_cell BK102.out 2).trans rfl;have hfz10_0:=blk_frozen BK102.out 0;have hfz10_1:=blk_frozen BK102.out 1;have hfz10_2:=blk_frozen BK102.out 2))
        go_ret
        exact ⟨by first|rfl|(simp [errW_none,errW_some] <;> rfl)|(simp [*,errW_none,errW_some] <;> rfl),by repeat (first|(with_reducible first|exact HB.out|apply below_alloc|apply pw_below_drewN|apply below_drew1|refine below_set ?_ GE102.out)|exact HB.out)⟩
       ·rw [if_neg c8] at H
        have c8b0:decide (600<(((rd_T25 l0 x7_1).f2).length:Int))=false:=decide_eq_false c8
        have c8b1:decide (600<((rd_T25 l0 x7_1).f2).length)=false:=decide_eq_false (by omega)
        clear c8
        have H':=aK H
        clear H
        have p101:0≤(x7_1:Int):=of_decide_eq_true (by first|(with_reducible assumption)|assumption)
        have q101:x7_1<(l0.length:Int):=of_decide_eq_true (by first|(with_reducible assumption)|assumption)
        obtain ⟨ad101,A101_1,c101_1,A101_2,c101_2,e101,hx101_0,hx101_1,hx101_2,hl101_1,hi101_1,hl101_2,hi101_2⟩:=at_T25 HR0.out x7_1 p101 q101
        cases e101
        replace hx101_0:=(HB.out.cell (World.block_lt_of_cell? w _ hx101_0)).trans hx101_0
        replace hx101_1:=(HB.out.cell (World.block_lt_of_cell? w _ hx101_1)).trans hx101_1
        replace hx101_2:=(HB.out.cell (World.block_lt_of_cell? w _ hx101_2)).trans hx101_2
        have HR101_1:=aK hi101_1
        have HC101_1:=aK hl101_1
        clear hi101_1 hl101_1
        have HR101_2:=aK hi101_2
        have HC101_2:=aK hl101_2
        clear hi101_2 hl101_2
        replace p101:=eq_true p101
        replace q101:=eq_true q101
        go_wp2_with (first|((with_reducible refine gate_dst (N:=4) rfl ?_);refine box_event ?hg (N:=4) ?hd (cs:=#[.int .i64 0,.slice none 0 0,.slice none 0 0]) (t:=25) ?hr ?_;(case hd=>rfl);(case hg=>rfl);(case hr=>first|(go_simp;done)|(go_simp;rfl));intro gb102 hg w11 hbox hb;have n0_:=aK (below_step (by repeat (first|(with_reducible first|exact HB.out|apply below_alloc|apply pw_below_drewN|apply below_drew1)|exact HB.out)) hb);have n1_:=aK (hbox);have n2_:=aK ((by rw [hg];exact (below_size (by repeat (first|(with_reducible first|exact HB.out|apply below_alloc|apply pw_below_drewN|apply below_drew1)|exact HB.out))):w.heap.size≤gb102));have n3_:=n2_;clear HB;have HB:=n0_;have BK102:=n1_;have GW102:=n2_;have GE102:=n3_;clear n0_ n1_ n2_ n3_;clear hb hbox hg;have hcz12_0:w11.cell? ⟨gb102,0,none⟩=some (.int .i64 0):=(blk_cell BK102.out 0).trans rfl;have hcz12_1:w11.cell? ⟨gb102,1,none⟩=some (.slice none 0 0):=(blk_cell BK102.out 1).trans rfl;have hcz12_2:w11.cell? ⟨gb102,2,none⟩=some (.slice none 0 0):=(blk_cell BK102.out 2).trans rfl;have hfz12_0:=blk_frozen BK102.out 0;have hfz12_1:=blk_frozen BK102.out 1;have hfz12_2:=blk_frozen BK102.out 2))
        go_roundg k1
        case measure=>have:=HK1.out;omega
        case rel=>exact ⟨(wrap64 (x7_1+1)),(by first|rfl|(simp;done)|(simp [*];done)),H',⟨by have:=HK1.out;omega⟩,⟨by repeat (first|(with_reducible first|exact HB.out|apply below_alloc|apply pw_below_drewN|apply below_drew1|refine below_set ?_ GE102.out)|exact HB.out)⟩⟩
     ·rw [if_neg c4] at H
      exact absurd H (by simp)
    ·rw [if_neg c3] at H
     exact absurd H (by simp)
   ·rw [if_neg c2] at H
    have c2b0:decide (x7_1<(l0.length:Int))=false:=decide_eq_false c2
    clear c2
    obtain rfl:=Option.some.inj H
    go_wp2
    go_ret
    exact ⟨by first|rfl|(simp [errW_none,errW_some] <;> rfl)|(simp [*,errW_none,errW_some] <;> rfl),by repeat (first|(with_reducible first|exact HB.out|apply below_alloc|apply pw_below_drewN|apply below_drew1)|exact HB.out)⟩
def metric_IsSize.f (a0:Int):Option (Bool):=if a0≥1 then (some (decide (a0≤268435455))) else (some false)
set_option maxHeartbeats 8000000 in
theorem metric_IsSize.calls (a0 : Int) (r : Bool) (w : World) (h : metric_IsSize.f a0 = some r) :
  Calls Tryz.prog 32 #[.int .i64 a0] w fun e w'=>e = .returned (.bool r)∧Drawn0 w w':=by
 have H:(if a0≥1 then (some (decide (a0≤268435455))) else (some false))=some r:=h
 clear h
 by_cases c2:a0≥1
 ·rw [if_pos c2] at H
  have c2b0:decide (1≤a0)=true:=decide_eq_true c2
  clear c2
  obtain rfl:=Option.some.inj H
  go_enter Tryz.func32,Tryz.ntmps32
  go_wp2
  go_ret
  exact ⟨by first|rfl|(simp;done)|(simp [*];done),by repeat (first|exact Drawn0.refl _|apply Drawn0.step)⟩
 ·rw [if_neg c2] at H
  have c2b0:decide (1≤a0)=false:=decide_eq_false c2
  clear c2
  obtain rfl:=Option.some.inj H
  go_enter Tryz.func32,Tryz.ntmps32
  go_wp2
  go_ret
  exact ⟨by first|rfl|(simp;done)|(simp [*];done),by repeat (first|exact Drawn0.refl _|apply Drawn0.step)⟩
theorem goesv_ {P : Program} {ops : Array Oper} {Q : Exit → Act → World → Prop} {oi : Oper} {N : Option Tmp} {a : Act} {w : World} {K : Act → World → Prop} {g : FuncId} {s : Operand} {xs : Array Operand} {ts : Array TypeId} (lb args : Array Value)
  (eg : ∀ args w,(callFunc g args).run P w = .ok (.enter g args) w)
  (hw:Region.wanted oi (yielded ops a.tmps)=true) (hN:oi.dst=N) (hop:oi.op = .call { callee:=.value s,args:=xs,argTypes:=ts }) (hs:a.eval s = .func (.func g) #[] lb) (hargs:xs.map a.eval=args)
  (h:Calls P g (args++lb) w fun e w'=>∃ v,e = .returned v∧K (a.put N v) w'):if Region.wanted oi (yielded ops a.tmps)=true then Oper.wp P oi a w K Q else K (a.put N undef) w:=by
 refine call_ g (args++lb) hw hN ?_ h
 have he:=eg (args++lb) w
 unfold execOp
 simp [hop,resolve,Deferred.ofValue,invoke,hs,hargs,he]
theorem enters_own {f : FuncId} {fn : Func} {c : Code} (hf : Tryz.prog.funcs[f]? = some fn) (hname : (fn.name == "runtime.NumGoroutine") = false) (hb : fn.body = some c) : ∀ (args : Array Value) (w : World), (callFunc f args).run Tryz.prog w = .ok (.enter f args) w := by
 intro args w
 have h1 : fn.name ≠ "runtime.NumGoroutine" := by simpa using hname
 simp [callFunc,hf,h1,hb,mark]
def idxFromC (p : S50 → Bool) : List S50 → Int → Int
 | [],_=>-1
 | x::xs,i=>if p x then i else idxFromC p xs (i+1)
theorem idxFromC_nonneg (p : S50 → Bool) : ∀ (xs : List S50) (i : Int), 0 ≤ i → (decide (0 ≤ idxFromC p xs i) = xs.any p)
 | [],i,_=>by simp [idxFromC]
 | x::xs,i,h=>by
  unfold idxFromC
  by_cases hx:p x=true
  ·simp [hx,h]
  ·simp [hx,idxFromC_nonneg p xs (i+1) (by omega)]
theorem rd_dropC (xs:List S50) (i:Nat) (h:i<xs.length):xs.drop i=rd_T50 xs (i:Int)::xs.drop (i+1):=by
 rw [List.drop_eq_getElem_cons h]
 congr 1
 simp [rd_T50,List.getD_eq_getElem?_getD,List.getElem?_eq_getElem h]
set_option maxHeartbeats 2000000 in
theorem IndexFunc_prsC (g : Nat) (lb : Array Value) (p : S50 → Bool) (eg : ∀ args w, (callFunc g args).run Tryz.prog w = .ok (.enter g args) w) (A0 : Option Addr) (c0 : Nat) (l0 : List S50) (w : World)
  (hp : ∀ (W:World) (x:S50),Below w.heap.size w W→Calls Tryz.prog g (#[.agg #[.int .i64 x.f0,.int .i64 x.f1,.int .i64 x.f2,.int .i64 x.f3]]++lb) W fun e w'=>e = .returned (.bool (p x))∧Below w.heap.size w w')
  (hr0:Kd.C k50 w A0 l0.length l0) (hlen:l0.length≤9223372036854775807) :
  Calls Tryz.prog 103 #[.slice A0 l0.length c0,.func (.func g) #[] lb] w fun e w'=>e = .returned (.int .i64 (idxFromC p l0 0))∧Below w.heap.size w w':=by
 have hu:=Tryz.underlying50
 have HR0:=aK hr0
 have HP:=aK hp
 clear hr0 hp
 have HB:=aK (Below.refl w.heap.size w)
 go_enter Tryz.func103,Tryz.ntmps103
 go_wp2
 go_loopg [8] l0.length (fun gg s8 wr=>∃ kk:Nat,kk≤l0.length∧l0.length-kk≤gg∧s8 = .int .i64 kk∧Aside0 (idxFromC p l0 0=idxFromC p (l0.drop kk) kk)∧Aside0 (Below w.heap.size w wr))
 case atStart=>exact ⟨0,Nat.zero_le _,by omega,rfl,⟨rfl⟩,HB⟩
 case round =>
  obtain ⟨kk,hkk,hg,rfl,HI,HB⟩:=hrel
  by_cases hlt:kk<l0.length
  ·have hlti:(kk:Int)<(l0.length:Int):=by omega
   obtain ⟨ad,rfl,hx0,hx1,hx2,hx3⟩:=at_T50 HR0.out (kk:Int) (by omega) hlti
   have hcall:=HP.out wr (rd_T50 l0 (kk:Int)) HB.out
   have hd:=rd_dropC l0 kk hlt
   have HI2:Aside0 (idxFromC p l0 0=if p (rd_T50 l0 (kk:Int)) then (kk:Int) else idxFromC p (l0.drop (kk+1)) ((kk:Int)+1)):=⟨by rw [HI.out,hd];rfl⟩
   clear HI hd
   replace hx0:=(HB.out.cell (World.block_lt_of_cell? w _ hx0)).trans hx0
   replace hx1:=(HB.out.cell (World.block_lt_of_cell? w _ hx1)).trans hx1
   replace hx2:=(HB.out.cell (World.block_lt_of_cell? w _ hx2)).trans hx2
   replace hx3:=(HB.out.cell (World.block_lt_of_cell? w _ hx3)).trans hx3
   simp only [Int.toNat_natCast] at hx0 hx1 hx2 hx3
   generalize rd_T50 l0 (kk:Int)=x at *
   cases hq:p x with
   | true =>
    rw [hq] at hcall
    have hi:idxFromC p l0 0=(kk:Int):=by have:=HI2.out;rw [hq] at this;exact this
    have HI3:=aK hi
    clear hi HI2 hq
    go_wp2_with fail
    refine hcall.mono ?_
    clear hcall
    rintro e w' ⟨rfl,hb'⟩
    go_wp2
    go_ret
    exact ⟨by rw [HI3.out];rfl,hb'⟩
   | false =>
    rw [hq] at hcall
    have hi:idxFromC p l0 0=idxFromC p (l0.drop (kk+1)) ((kk:Int)+1):=by have:=HI2.out;rw [hq] at this;exact this
    have HI3:=aK hi
    clear hi HI2 hq
    go_wp2_with fail
    refine hcall.mono ?_
    clear hcall
    rintro e w' ⟨rfl,hb'⟩
    go_wp2
    go_roundg (l0.length-(kk+1))
    case measure=>omega
    case rel=>exact ⟨kk+1,by omega,by omega,by go_num,⟨HI3.out⟩,⟨hb'⟩⟩
  ·have hlti : ¬ (kk:Int)<(l0.length:Int):=by omega
   have hi:idxFromC p l0 0 = -1:=by rw [HI.out,List.drop_eq_nil_of_le (by omega)];rfl
   have HI3:=aK hi
   clear hi HI
   go_wp2
   go_ret
   exact ⟨by rw [HI3.out];rfl,HB.out⟩
set_option maxHeartbeats 2000000 in
theorem ContainsFunc_prsC (g : Nat) (lb : Array Value) (p : S50 → Bool) (eg : ∀ args w, (callFunc g args).run Tryz.prog w = .ok (.enter g args) w) (A0 : Option Addr) (c0 : Nat) (l0 : List S50) (w : World)
  (hp : ∀ (W:World) (x:S50),Below w.heap.size w W→Calls Tryz.prog g (#[.agg #[.int .i64 x.f0,.int .i64 x.f1,.int .i64 x.f2,.int .i64 x.f3]]++lb) W fun e w'=>e = .returned (.bool (p x))∧Below w.heap.size w w')
  (hr0:Kd.C k50 w A0 l0.length l0) (hlen:l0.length≤9223372036854775807) :
  Calls Tryz.prog 82 #[.slice A0 l0.length c0,.func (.func g) #[] lb] w fun e w'=>e = .returned (.bool (l0.any p))∧Below w.heap.size w w':=by
 have hc:=IndexFunc_prsC g lb p eg A0 c0 l0 w hp hr0 hlen
 have HA:=aK (idxFromC_nonneg p l0 0 (by omega))
 clear hp hr0
 generalize idxFromC p l0 0=n at *
 go_enter Tryz.func82,Tryz.ntmps82
 go_wp2_with fail
 refine hc.mono ?_
 clear hc
 rintro e w' ⟨rfl,hb'⟩
 go_wp2
 go_ret
 exact ⟨by rw [← HA.out];rfl,hb'⟩
set_option maxHeartbeats 2000000 in
theorem all1_callsC (g : Nat) (p : S50 → Bool) (eg : ∀ args w, (callFunc g args).run Tryz.prog w = .ok (.enter g args) w) (b : Nat) (x : S50) (W : World)
  (hp : ∀ (W:World) (x:S50),Calls Tryz.prog g #[.agg #[.int .i64 x.f0,.int .i64 x.f1,.int .i64 x.f2,.int .i64 x.f3]] W fun e w'=>e = .returned (.bool (p x))∧Below W.heap.size W w')
  (h:W.heap[b]?=some (.cells #[.func (.func g) #[] #[]] 64 (0,0))) :
  Calls Tryz.prog 83 #[.agg #[.int .i64 x.f0,.int .i64 x.f1,.int .i64 x.f2,.int .i64 x.f3],.pointer (some ⟨b,0,none⟩)] W fun e w'=>e = .returned (.bool (!p x))∧Below W.heap.size W w':=by
 have hu:=Tryz.underlying50
 have K1:=blk_alloc h (.cells #[.int .i64 x.f0,.int .i64 x.f1,.int .i64 x.f2,.int .i64 x.f3] 50)
 have K2:=blk_new W (.cells #[.int .i64 x.f0,.int .i64 x.f1,.int .i64 x.f2,.int .i64 x.f3] 50)
 have p0:=(blk_cell K1 0).trans rfl
 have p1:=(blk_cell K2 0).trans rfl
 have p2:=(blk_cell K2 1).trans rfl
 have p3:=(blk_cell K2 2).trans rfl
 have p4:=(blk_cell K2 3).trans rfl
 have HB:=aK (below_alloc (Below.refl W.heap.size W) (.cells #[.int .i64 x.f0,.int .i64 x.f1,.int .i64 x.f2,.int .i64 x.f3] 50))
 have hcall:=hp (W.alloc (.cells #[.int .i64 x.f0,.int .i64 x.f1,.int .i64 x.f2,.int .i64 x.f3] 50)) x
 clear h K1 K2 hp
 generalize p x=r at *
 go_enter Tryz.func83,Tryz.ntmps83
 go_wp2_with fail
 refine hcall.mono ?_
 clear hcall
 rintro e w' ⟨rfl,hb⟩
 go_wp2
 go_ret
 exact ⟨rfl,below_step HB.out hb⟩
set_option maxHeartbeats 2000000 in
theorem all_prsC (g : Nat) (p : S50 → Bool) (eg : ∀ args w, (callFunc g args).run Tryz.prog w = .ok (.enter g args) w) (A0 : Option Addr) (c0 : Nat) (l0 : List S50) (w : World)
  (hp : ∀ (W:World) (x:S50),Calls Tryz.prog g #[.agg #[.int .i64 x.f0,.int .i64 x.f1,.int .i64 x.f2,.int .i64 x.f3]] W fun e w'=>e = .returned (.bool (p x))∧Below W.heap.size W w')
  (hr0:Kd.C k50 w A0 l0.length l0) (hlen:l0.length≤9223372036854775807) :
  Calls Tryz.prog 33 #[.slice A0 l0.length c0,.func (.func g) #[] #[]] w fun e w'=>e = .returned (.bool (l0.all p))∧Below w.heap.size w w':=by
 have K:=aK (blk_new w (.cells #[.func (.func g) #[] #[]] 64))
 have HB:=aK (below_alloc (Below.refl w.heap.size w) (.cells #[.func (.func g) #[] #[]] 64))
 have HC:=aK (ContainsFunc_prsC 83 #[.pointer (some ⟨w.heap.size,0,none⟩)] (fun x=>!p x) (enters_own Tryz.func83 (by kernel_rfl) rfl) A0 c0 l0 (w.alloc (.cells #[.func (.func g) #[] #[]] 64)) (fun W x hbW=>(all1_callsC g p eg w.heap.size x W hp (blk_below K.out hbW)).mono (fun e w' he=>⟨he.1,below_step hbW he.2⟩)) (Kd.C_below hr0 HB.out) hlen)
 have HQ:Aside0 ((!(l0.any fun x=>!p x))=l0.all p):=⟨by rw [List.all_eq_not_any_not]⟩
 generalize l0.all p=r at *
 generalize (l0.any fun x=>!p x)=q at *
 clear hr0 hp K
 go_enter Tryz.func33,Tryz.ntmps33
 go_wp2_with fail
 refine HC.out.mono ?_
 rintro e w' ⟨rfl,hb⟩
 go_wp2
 go_ret
 exact ⟨by rw [← HQ.out];rfl,below_step HB.out hb⟩
def metric_isCode.f (a0:Int):Option (Bool):=if a0≥0 then (some (decide (a0≤255))) else (some false)
set_option maxHeartbeats 8000000 in
theorem metric_isCode.calls (a0 : Int) (r : Bool) (w : World) (h : metric_isCode.f a0 = some r) :
  Calls Tryz.prog 84 #[.int .i64 a0] w fun e w'=>e = .returned (.bool r)∧Drawn0 w w':=by
 have H:(if a0≥0 then (some (decide (a0≤255))) else (some false))=some r:=h
 clear h
 by_cases c2:a0≥0
 ·rw [if_pos c2] at H
  have c2b0:decide (0≤a0)=true:=decide_eq_true c2
  clear c2
  obtain rfl:=Option.some.inj H
  go_enter Tryz.func84,Tryz.ntmps84
  go_wp2
  go_ret
  exact ⟨by first|rfl|(simp;done)|(simp [*];done),by repeat (first|exact Drawn0.refl _|apply Drawn0.step)⟩
 ·rw [if_neg c2] at H
  have c2b0:decide (0≤a0)=false:=decide_eq_false c2
  clear c2
  obtain rfl:=Option.some.inj H
  go_enter Tryz.func84,Tryz.ntmps84
  go_wp2
  go_ret
  exact ⟨by first|rfl|(simp;done)|(simp [*];done),by repeat (first|exact Drawn0.refl _|apply Drawn0.step)⟩
def metric_isCoord.f (a0:Int):Option (Bool):=if a0≥(-268435455) then (some (decide (a0≤268435455))) else (some false)
set_option maxHeartbeats 8000000 in
theorem metric_isCoord.calls (a0 : Int) (r : Bool) (w : World) (h : metric_isCoord.f a0 = some r) :
  Calls Tryz.prog 85 #[.int .i64 a0] w fun e w'=>e = .returned (.bool r)∧Drawn0 w w':=by
 have H:(if a0≥(-268435455) then (some (decide (a0≤268435455))) else (some false))=some r:=h
 clear h
 by_cases c2:a0≥(-268435455)
 ·rw [if_pos c2] at H
  have c2b0:decide ((-268435455)≤a0)=true:=decide_eq_true c2
  clear c2
  obtain rfl:=Option.some.inj H
  go_enter Tryz.func85,Tryz.ntmps85
  go_wp2
  go_ret
  exact ⟨by first|rfl|(simp;done)|(simp [*];done),by repeat (first|exact Drawn0.refl _|apply Drawn0.step)⟩
 ·rw [if_neg c2] at H
  have c2b0:decide ((-268435455)≤a0)=false:=decide_eq_false c2
  clear c2
  obtain rfl:=Option.some.inj H
  go_enter Tryz.func85,Tryz.ntmps85
  go_wp2
  go_ret
  exact ⟨by first|rfl|(simp;done)|(simp [*];done),by repeat (first|exact Drawn0.refl _|apply Drawn0.step)⟩
def metric_isChar.f (a0_0:Int) (a0_1:Int) (a0_2:Int) (a0_3:Int):Option (Bool):=(metric_isCode.f a0_0).bind fun t104=>(if t104=true then ((metric_isCoord.f a0_1).bind fun t105=>(if t105=true then ((metric_isCoord.f a0_2).bind fun t106=>(if t106=true then ((metric_isCoord.f a0_3).bind fun t107=>(some t107)) else (some false))) else (some false))) else (some false))
set_option maxHeartbeats 8000000 in
theorem metric_isChar.calls (a0_0 : Int) (a0_1 : Int) (a0_2 : Int) (a0_3 : Int) (r : Bool) (w : World) (h : metric_isChar.f a0_0 a0_1 a0_2 a0_3 = some r) :
  Calls Tryz.prog 34 #[.agg #[.int .i64 a0_0,.int .i64 a0_1,.int .i64 a0_2,.int .i64 a0_3]] w fun e w'=>e = .returned (.bool r)∧Below w.heap.size w w':=by
 have hu50:=Tryz.underlying50
 have HB:=aK (Below.refl w.heap.size w)
 have H:((metric_isCode.f a0_0).bind fun t104=>(if t104=true then ((metric_isCoord.f a0_1).bind fun t105=>(if t105=true then ((metric_isCoord.f a0_2).bind fun t106=>(if t106=true then ((metric_isCoord.f a0_3).bind fun t107=>(some t107)) else (some false))) else (some false))) else (some false)))=some r:=h
 clear h
 replace H:=Option.bind_eq_some_iff.mp H
 obtain ⟨t104,A20,H⟩:=H
 replace H:(if t104=true then ((metric_isCoord.f a0_1).bind fun t105=>(if t105=true then ((metric_isCoord.f a0_2).bind fun t106=>(if t106=true then ((metric_isCoord.f a0_3).bind fun t107=>(some t107)) else (some false))) else (some false))) else (some false))=some r:=H
 have A2:=aK A20
 clear A20
 by_cases c3:t104=true
 ·subst c3
  have H1:((metric_isCoord.f a0_1).bind fun t105=>(if t105=true then ((metric_isCoord.f a0_2).bind fun t106=>(if t106=true then ((metric_isCoord.f a0_3).bind fun t107=>(some t107)) else (some false))) else (some false)))=some r:=by rw [if_pos rfl] at H;exact H
  clear H
  have H:=H1
  clear H1
  replace H:=Option.bind_eq_some_iff.mp H
  obtain ⟨t105,A40,H⟩:=H
  replace H:(if t105=true then ((metric_isCoord.f a0_2).bind fun t106=>(if t106=true then ((metric_isCoord.f a0_3).bind fun t107=>(some t107)) else (some false))) else (some false))=some r:=H
  have A4:=aK A40
  clear A40
  by_cases c5:t105=true
  ·subst c5
   have H1:((metric_isCoord.f a0_2).bind fun t106=>(if t106=true then ((metric_isCoord.f a0_3).bind fun t107=>(some t107)) else (some false)))=some r:=by rw [if_pos rfl] at H;exact H
   clear H
   have H:=H1
   clear H1
   replace H:=Option.bind_eq_some_iff.mp H
   obtain ⟨t106,A60,H⟩:=H
   replace H:(if t106=true then ((metric_isCoord.f a0_3).bind fun t107=>(some t107)) else (some false))=some r:=H
   have A6:=aK A60
   clear A60
   by_cases c7:t106=true
   ·subst c7
    have H1:((metric_isCoord.f a0_3).bind fun t107=>(some t107))=some r:=by rw [if_pos rfl] at H;exact H
    clear H
    have H:=H1
    clear H1
    replace H:=Option.bind_eq_some_iff.mp H
    obtain ⟨t107,A80,H⟩:=H
    replace H:(some t107)=some r:=H
    have A8:=aK A80
    clear A80
    obtain rfl:=Option.some.inj H
    go_enter Tryz.func34,Tryz.ntmps34
    go_wp2_with (first|((with_reducible refine gate_dst (N:=1) rfl ?_);refine box_event ?hg (N:=1) ?hd (cs:=#[.int .i64 a0_0,.int .i64 a0_1,.int .i64 a0_2,.int .i64 a0_3]) (t:=50) ?hr ?_;(case hd=>rfl);(case hg=>rfl);(case hr=>first|(go_simp;done)|(go_simp;rfl));intro gb103 hg w9 hbox hb;have n0_:=aK (below_step (by repeat (first|(with_reducible first|exact HB.out|apply below_alloc|apply pw_below_drewN|apply below_drew1)|exact HB.out)) hb);have n1_:=aK (hbox);have n2_:=aK ((by rw [hg];exact (below_size (by repeat (first|(with_reducible first|exact HB.out|apply below_alloc|apply pw_below_drewN|apply below_drew1)|exact HB.out))):w.heap.size≤gb103));have n3_:=n2_;clear HB;have HB:=n0_;have BK103:=n1_;have GW103:=n2_;have GE103:=n3_;clear n0_ n1_ n2_ n3_;clear hb hbox hg;have hcz10_0:w9.cell? ⟨gb103,0,none⟩=some (.int .i64 a0_0):=(blk_cell BK103.out 0).trans rfl;have hcz10_1:w9.cell? ⟨gb103,1,none⟩=some (.int .i64 a0_1):=(blk_cell BK103.out 1).trans rfl;have hcz10_2:w9.cell? ⟨gb103,2,none⟩=some (.int .i64 a0_2):=(blk_cell BK103.out 2).trans rfl;have hcz10_3:w9.cell? ⟨gb103,3,none⟩=some (.int .i64 a0_3):=(blk_cell BK103.out 3).trans rfl;have hfz10_0:=blk_frozen BK103.out 0;have hfz10_1:=blk_frozen BK103.out 1;have hfz10_2:=blk_frozen BK103.out 2;have hfz10_3:=blk_frozen BK103.out 3)|((with_reducible refine gate_callee (f:=84) rfl ?_);refine goesL_ (some 5) rfl rfl Tryz.func84 (by kernel_rfl) rfl #[.int .i64 a0_0] rfl (by (try simp only [List.map_toArray,List.map_cons,List.map_nil]);first|done|rfl|(simp only [List.length_drop,List.length_take];rfl)) ?_;(with_reducible refine (metric_isCode.calls a0_0 true _ A2.out).mono ?_);rintro e w' ⟨rfl,⟨nd,rfl⟩⟩;refine ⟨_,rfl,?_⟩)|(go_at_call 85;(with_reducible refine (metric_isCoord.calls a0_1 true _ A4.out).mono ?_);rintro e w' ⟨rfl,⟨nd,rfl⟩⟩)|(go_at_call 85;(with_reducible refine (metric_isCoord.calls a0_2 true _ A6.out).mono ?_);rintro e w' ⟨rfl,⟨nd,rfl⟩⟩)|(go_at_call 85;(with_reducible refine (metric_isCoord.calls a0_3 t107 _ A8.out).mono ?_);rintro e w' ⟨rfl,⟨nd,rfl⟩⟩))
    go_ret
    exact ⟨by first|rfl|(simp [errW_none,errW_some] <;> rfl)|(simp [*,errW_none,errW_some] <;> rfl),by repeat (first|(with_reducible first|exact HB.out|apply below_alloc|apply pw_below_drewN|apply below_drew1|refine below_set ?_ GE103.out)|exact HB.out)⟩
   ·replace c7:=Bool.eq_false_iff.mpr c7
    subst c7
    have H1:(some false)=some r:=by rw [if_neg (show ¬ (false=true) by decide)] at H;exact H
    clear H
    have H:=H1
    clear H1
    obtain rfl:=Option.some.inj H
    go_enter Tryz.func34,Tryz.ntmps34
    go_wp2_with (first|((with_reducible refine gate_dst (N:=1) rfl ?_);refine box_event ?hg (N:=1) ?hd (cs:=#[.int .i64 a0_0,.int .i64 a0_1,.int .i64 a0_2,.int .i64 a0_3]) (t:=50) ?hr ?_;(case hd=>rfl);(case hg=>rfl);(case hr=>first|(go_simp;done)|(go_simp;rfl));intro gb103 hg w11 hbox hb;have n0_:=aK (below_step (by repeat (first|(with_reducible first|exact HB.out|apply below_alloc|apply pw_below_drewN|apply below_drew1)|exact HB.out)) hb);have n1_:=aK (hbox);have n2_:=aK ((by rw [hg];exact (below_size (by repeat (first|(with_reducible first|exact HB.out|apply below_alloc|apply pw_below_drewN|apply below_drew1)|exact HB.out))):w.heap.size≤gb103));have n3_:=n2_;clear HB;have HB:=n0_;have BK103:=n1_;have GW103:=n2_;have GE103:=n3_;clear n0_ n1_ n2_ n3_;clear hb hbox hg;have hcz12_0:w11.cell? ⟨gb103,0,none⟩=some (.int .i64 a0_0):=(blk_cell BK103.out 0).trans rfl;have hcz12_1:w11.cell? ⟨gb103,1,none⟩=some (.int .i64 a0_1):=(blk_cell BK103.out 1).trans rfl;have hcz12_2:w11.cell? ⟨gb103,2,none⟩=some (.int .i64 a0_2):=(blk_cell BK103.out 2).trans rfl;have hcz12_3:w11.cell? ⟨gb103,3,none⟩=some (.int .i64 a0_3):=(blk_cell BK103.out 3).trans rfl;have hfz12_0:=blk_frozen BK103.out 0;have hfz12_1:=blk_frozen BK103.out 1;have hfz12_2:=blk_frozen BK103.out 2;have hfz12_3:=blk_frozen BK103.out 3)|((with_reducible refine gate_callee (f:=84) rfl ?_);refine goesL_ (some 5) rfl rfl Tryz.func84 (by kernel_rfl) rfl #[.int .i64 a0_0] rfl (by (try simp only [List.map_toArray,List.map_cons,List.map_nil]);first|done|rfl|(simp only [List.length_drop,List.length_take];rfl)) ?_;(with_reducible refine (metric_isCode.calls a0_0 true _ A2.out).mono ?_);rintro e w' ⟨rfl,⟨nd,rfl⟩⟩;refine ⟨_,rfl,?_⟩)|(go_at_call 85;(with_reducible refine (metric_isCoord.calls a0_1 true _ A4.out).mono ?_);rintro e w' ⟨rfl,⟨nd,rfl⟩⟩)|(go_at_call 85;(with_reducible refine (metric_isCoord.calls a0_2 false _ A6.out).mono ?_);rintro e w' ⟨rfl,⟨nd,rfl⟩⟩))
    go_ret
    exact ⟨by first|rfl|(simp [errW_none,errW_some] <;> rfl)|(simp [*,errW_none,errW_some] <;> rfl),by repeat (first|(with_reducible first|exact HB.out|apply below_alloc|apply pw_below_drewN|apply below_drew1|refine below_set ?_ GE103.out)|exact HB.out)⟩
  ·replace c5:=Bool.eq_false_iff.mpr c5
   subst c5
   have H1:(some false)=some r:=by rw [if_neg (show ¬ (false=true) by decide)] at H;exact H
   clear H
   have H:=H1
   clear H1
   obtain rfl:=Option.some.inj H
   go_enter Tryz.func34,Tryz.ntmps34
   go_wp2_with (first|((with_reducible refine gate_dst (N:=1) rfl ?_);refine box_event ?hg (N:=1) ?hd (cs:=#[.int .i64 a0_0,.int .i64 a0_1,.int .i64 a0_2,.int .i64 a0_3]) (t:=50) ?hr ?_;(case hd=>rfl);(case hg=>rfl);(case hr=>first|(go_simp;done)|(go_simp;rfl));intro gb103 hg w13 hbox hb;have n0_:=aK (below_step (by repeat (first|(with_reducible first|exact HB.out|apply below_alloc|apply pw_below_drewN|apply below_drew1)|exact HB.out)) hb);have n1_:=aK (hbox);have n2_:=aK ((by rw [hg];exact (below_size (by repeat (first|(with_reducible first|exact HB.out|apply below_alloc|apply pw_below_drewN|apply below_drew1)|exact HB.out))):w.heap.size≤gb103));have n3_:=n2_;clear HB;have HB:=n0_;have BK103:=n1_;have GW103:=n2_;have GE103:=n3_;clear n0_ n1_ n2_ n3_;clear hb hbox hg;have hcz14_0:w13.cell? ⟨gb103,0,none⟩=some (.int .i64 a0_0):=(blk_cell BK103.out 0).trans rfl;have hcz14_1:w13.cell? ⟨gb103,1,none⟩=some (.int .i64 a0_1):=(blk_cell BK103.out 1).trans rfl;have hcz14_2:w13.cell? ⟨gb103,2,none⟩=some (.int .i64 a0_2):=(blk_cell BK103.out 2).trans rfl;have hcz14_3:w13.cell? ⟨gb103,3,none⟩=some (.int .i64 a0_3):=(blk_cell BK103.out 3).trans rfl;have hfz14_0:=blk_frozen BK103.out 0;have hfz14_1:=blk_frozen BK103.out 1;have hfz14_2:=blk_frozen BK103.out 2;have hfz14_3:=blk_frozen BK103.out 3)|((with_reducible refine gate_callee (f:=84) rfl ?_);refine goesL_ (some 5) rfl rfl Tryz.func84 (by kernel_rfl) rfl #[.int .i64 a0_0] rfl (by (try simp only [List.map_toArray,List.map_cons,List.map_nil]);first|done|rfl|(simp only [List.length_drop,List.length_take];rfl)) ?_;(with_reducible refine (metric_isCode.calls a0_0 true _ A2.out).mono ?_);rintro e w' ⟨rfl,⟨nd,rfl⟩⟩;refine ⟨_,rfl,?_⟩)|(go_at_call 85;(with_reducible refine (metric_isCoord.calls a0_1 false _ A4.out).mono ?_);rintro e w' ⟨rfl,⟨nd,rfl⟩⟩))
   go_ret
   exact ⟨by first|rfl|(simp [errW_none,errW_some] <;> rfl)|(simp [*,errW_none,errW_some] <;> rfl),by repeat (first|(with_reducible first|exact HB.out|apply below_alloc|apply pw_below_drewN|apply below_drew1|refine below_set ?_ GE103.out)|exact HB.out)⟩
 ·replace c3:=Bool.eq_false_iff.mpr c3
  subst c3
  have H1:(some false)=some r:=by rw [if_neg (show ¬ (false=true) by decide)] at H;exact H
  clear H
  have H:=H1
  clear H1
  obtain rfl:=Option.some.inj H
  go_enter Tryz.func34,Tryz.ntmps34
  go_wp2_with (first|((with_reducible refine gate_dst (N:=1) rfl ?_);refine box_event ?hg (N:=1) ?hd (cs:=#[.int .i64 a0_0,.int .i64 a0_1,.int .i64 a0_2,.int .i64 a0_3]) (t:=50) ?hr ?_;(case hd=>rfl);(case hg=>rfl);(case hr=>first|(go_simp;done)|(go_simp;rfl));intro gb103 hg w15 hbox hb;have n0_:=aK (below_step (by repeat (first|(with_reducible first|exact HB.out|apply below_alloc|apply pw_below_drewN|apply below_drew1)|exact HB.out)) hb);have n1_:=aK (hbox);have n2_:=aK ((by rw [hg];exact (below_size (by repeat (first|(with_reducible first|exact HB.out|apply below_alloc|apply pw_below_drewN|apply below_drew1)|exact HB.out))):w.heap.size≤gb103));have n3_:=n2_;clear HB;have HB:=n0_;have BK103:=n1_;have GW103:=n2_;have GE103:=n3_;clear n0_ n1_ n2_ n3_;clear hb hbox hg;have hcz16_0:w15.cell? ⟨gb103,0,none⟩=some (.int .i64 a0_0):=(blk_cell BK103.out 0).trans rfl;have hcz16_1:w15.cell? ⟨gb103,1,none⟩=some (.int .i64 a0_1):=(blk_cell BK103.out 1).trans rfl;have hcz16_2:w15.cell? ⟨gb103,2,none⟩=some (.int .i64 a0_2):=(blk_cell BK103.out 2).trans rfl;have hcz16_3:w15.cell? ⟨gb103,3,none⟩=some (.int .i64 a0_3):=(blk_cell BK103.out 3).trans rfl;have hfz16_0:=blk_frozen BK103.out 0;have hfz16_1:=blk_frozen BK103.out 1;have hfz16_2:=blk_frozen BK103.out 2;have hfz16_3:=blk_frozen BK103.out 3)|((with_reducible refine gate_callee (f:=84) rfl ?_);refine goesL_ (some 5) rfl rfl Tryz.func84 (by kernel_rfl) rfl #[.int .i64 a0_0] rfl (by (try simp only [List.map_toArray,List.map_cons,List.map_nil]);first|done|rfl|(simp only [List.length_drop,List.length_take];rfl)) ?_;(with_reducible refine (metric_isCode.calls a0_0 false _ A2.out).mono ?_);rintro e w' ⟨rfl,⟨nd,rfl⟩⟩;refine ⟨_,rfl,?_⟩))
  go_ret
  exact ⟨by first|rfl|(simp [errW_none,errW_some] <;> rfl)|(simp [*,errW_none,errW_some] <;> rfl),by repeat (first|(with_reducible first|exact HB.out|apply below_alloc|apply pw_below_drewN|apply below_drew1|refine below_set ?_ GE103.out)|exact HB.out)⟩
def chainB {α : Type} (ok : α → α → Bool) : List α → Bool
 | x::y::l=>ok x y && chainB ok (y::l)
 | _=>true
theorem chainB_short {α:Type} (ok:α→α→Bool) {l:List α} (h:l.length≤1):chainB ok l=true:=by
 match l,h with
 | [],_=>rfl
 | [_],_=>rfl
set_option maxHeartbeats 4000000 in
theorem rising_prsC (g : Nat) (cf : S50 → S50 → Int) (eg : ∀ args w, (callFunc g args).run Tryz.prog w = .ok (.enter g args) w) (A0 : Option Addr) (c0 : Nat) (l0 : List S50) (w : World)
  (hp : ∀ (W:World) (x y:S50),Calls Tryz.prog g #[.agg #[.int .i64 x.f0,.int .i64 x.f1,.int .i64 x.f2,.int .i64 x.f3],.agg #[.int .i64 y.f0,.int .i64 y.f1,.int .i64 y.f2,.int .i64 y.f3]] W fun e w'=>e = .returned (.int .i64 (cf x y))∧Below W.heap.size W w')
  (hr0:Kd.C k50 w A0 l0.length l0) (hlen:l0.length≤1000000000000) :
  Calls Tryz.prog 35 #[.slice A0 l0.length c0,.func (.func g) #[] #[]] w fun e w'=>e = .returned (.bool (chainB (fun x y=>decide (cf x y<0)) l0))∧Below w.heap.size w w':=by
 have hu:=Tryz.underlying50
 have HR0:=aK hr0
 have HP:=aK hp
 have HL:=aK hlen
 clear hr0 hp hlen
 have HB:=aK (Below.refl w.heap.size w)
 generalize hT:(fun (x y:S50)=>decide (cf x y<0))=ok
 have HT:=aK hT
 clear hT
 go_enter Tryz.func35,Tryz.ntmps35
 go_wp2
 go_loopg [5] l0.length (fun gg s5 wr=>∃ j kk:Nat,Aside0 (kk=j+1)∧l0.length-kk≤gg∧s5 = .int .i64 kk∧Aside0 (kk≤l0.length+1)∧Aside0 (chainB ok l0=chainB ok (l0.drop j))∧Aside0 (Below w.heap.size w wr))
 case atStart=>exact ⟨0,1,⟨rfl⟩,by omega,rfl,⟨by omega⟩,⟨rfl⟩,HB⟩
 case round =>
  obtain ⟨j,kk,HK,hg,rfl,HKL,HI,HB⟩:=hrel
  by_cases hlt:kk<l0.length
  ·have hlti:(kk:Int)<(l0.length:Int):=by omega
   have hk0:0≤(kk:Int):=by omega
   have hltj:(j:Int)<(l0.length:Int):=by have:=HK.out;omega
   have hj0:0≤(j:Int):=by omega
   have hwj:wrap64 ((kk:Int)-1)=(j:Int):=by have:=HK.out;have:=HL.out;unfold wrap64;omega
   obtain ⟨ad,rfl,hx0,hx1,hx2,hx3⟩:=at_T50 HR0.out (j:Int) (by omega) hltj
   obtain ⟨ad',e',hy0,hy1,hy2,hy3⟩:=at_T50 HR0.out (kk:Int) (by omega) hlti
   obtain rfl:ad=ad':=by injection e'
   simp only [Int.toNat_natCast] at hx0 hx1 hx2 hx3 hy0 hy1 hy2 hy3
   have hI:=HI.out
   rw [rd_dropC l0 j (by omega),rd_dropC l0 (j+1) (by have:=HK.out;omega)] at hI
   have hI2:chainB ok l0=(ok (rd_T50 l0 (j:Int)) (rd_T50 l0 (kk:Int)) && chainB ok (l0.drop (j+1))):=by
    have hk:=HK.out
    subst hk
    rw [hI]
    show (_ && chainB ok (_::_))=_
    rw [← rd_dropC l0 (j+1) hlt]
   have HI2:=aK hI2
   clear hI hI2 HI
   generalize rd_T50 l0 (kk:Int)=y at *
   generalize rd_T50 l0 (j:Int)=x at *
   have P0:=aK (show wr.drew.cell? (ad.add (j*4))=some (.int .i64 x.f0) from (HB.out.cell (World.block_lt_of_cell? w _ hx0)).trans hx0)
   have P1:=aK (show wr.drew.cell? ⟨(ad.add (j*4)).block,(ad.add (j*4)).off+1,none⟩=some (.int .i64 x.f1) from (HB.out.cell (World.block_lt_of_cell? w _ hx1)).trans hx1)
   have P2:=aK (show wr.drew.cell? ⟨(ad.add (j*4)).block,(ad.add (j*4)).off+2,none⟩=some (.int .i64 x.f2) from (HB.out.cell (World.block_lt_of_cell? w _ hx2)).trans hx2)
   have P3:=aK (show wr.drew.cell? ⟨(ad.add (j*4)).block,(ad.add (j*4)).off+3,none⟩=some (.int .i64 x.f3) from (HB.out.cell (World.block_lt_of_cell? w _ hx3)).trans hx3)
   have P4:=aK (show wr.drew.cell? (ad.add (kk*4))=some (.int .i64 y.f0) from (HB.out.cell (World.block_lt_of_cell? w _ hy0)).trans hy0)
   have P5:=aK (show wr.drew.cell? ⟨(ad.add (kk*4)).block,(ad.add (kk*4)).off+1,none⟩=some (.int .i64 y.f1) from (HB.out.cell (World.block_lt_of_cell? w _ hy1)).trans hy1)
   have P6:=aK (show wr.drew.cell? ⟨(ad.add (kk*4)).block,(ad.add (kk*4)).off+2,none⟩=some (.int .i64 y.f2) from (HB.out.cell (World.block_lt_of_cell? w _ hy2)).trans hy2)
   have P7:=aK (show wr.drew.cell? ⟨(ad.add (kk*4)).block,(ad.add (kk*4)).off+3,none⟩=some (.int .i64 y.f3) from (HB.out.cell (World.block_lt_of_cell? w _ hy3)).trans hy3)
   have hcall:=HP.out wr.drew x y
   have hokxy:ok x y=(decide (cf x y<0)):=by rw [← HT.out]
   generalize hv:cf x y=v at *
   have HCALL:=aK hcall
   have HSTEP:=aK (show wrap64 ((kk:Int)+1)=((kk+1:Nat):Int) by have:=HL.out;unfold wrap64;omega)
   clear hx0 hx1 hx2 hx3 hy0 hy1 hy2 hy3 hcall hv e'
   cases hob:ok x y with
   | true =>
    have HOK:Aside0 ((decide (v<0))=true):=⟨by rw [← hokxy];exact hob⟩
    have HI3:Aside0 (chainB ok l0=chainB ok (l0.drop (j+1))):=⟨by rw [HI2.out,hob];rfl⟩
    clear hokxy HI2 hob
    have HV2:Aside0 (v<0):=⟨by have:=HOK.out;simpa using this⟩
    have hvb:decide (v≥0)=false:=decide_eq_false (by have:=HV2.out;omega)
    have hvc:decide (0≤v)=false:=hvb
    go_wp2
    refine start_ (n:=12) (S:=fun w'=>w'.cell? (ad.add (j*4))=some (.int .i64 x.f0)∧w'.cell? ⟨(ad.add (j*4)).block,(ad.add (j*4)).off+1,none⟩=some (.int .i64 x.f1)∧w'.cell? ⟨(ad.add (j*4)).block,(ad.add (j*4)).off+2,none⟩=some (.int .i64 x.f2)∧w'.cell? ⟨(ad.add (j*4)).block,(ad.add (j*4)).off+3,none⟩=some (.int .i64 x.f3)∧w'.cell? (ad.add (kk*4))=some (.int .i64 y.f0)∧w'.cell? ⟨(ad.add (kk*4)).block,(ad.add (kk*4)).off+1,none⟩=some (.int .i64 y.f1)∧w'.cell? ⟨(ad.add (kk*4)).block,(ad.add (kk*4)).off+2,none⟩=some (.int .i64 y.f2)∧w'.cell? ⟨(ad.add (kk*4)).block,(ad.add (kk*4)).off+3,none⟩=some (.int .i64 y.f3)) (ds:=[10]) #[false,false,false,false,false,false,false,false,false,false,false,false] (by kernel_rfl) rfl rfl ⟨P0.out,P1.out,P2.out,P3.out,P4.out,P5.out,P6.out,P7.out⟩ (fun hHeld=>?_)
    refine pu 0 (some 12) ?_ rfl rfl (by kernel_rfl) (fun _ _ _ h=>h) (.inl ⟨by rfl,?_⟩) ?_ ?_ ?_;rotate_left;intro w';go_simp;with_reducible rfl;rotate_left;simp only [nS];rfl
    refine pu 1 (some 13) ?_ rfl rfl (by kernel_rfl) (fun _ _ _ h=>h) (.inl ⟨by rfl,?_⟩) ?_ ?_ ?_;rotate_left;intro w';go_simp;with_reducible rfl;rotate_left;simp only [nS];rfl
    refine pu 2 (some 14) ?_ rfl rfl (by kernel_rfl) (fun _ _ _ h=>h) (.inl ⟨by rfl,?_⟩) ?_ ?_ ?_;rotate_left;intro w';go_simp;with_reducible rfl;rotate_left;simp only [nS];rfl
    refine pu 3 (some 15) ?_ rfl rfl (by kernel_rfl) (fun _ _ _ h=>h) (.inl ⟨by rfl,?_⟩) ?_ ?_ ?_;rotate_left;intro w';go_simp;with_reducible rfl;rotate_left;simp only [nS];rfl
    refine pu 4 (some 16) ?_ rfl rfl (by kernel_rfl) (fun _ _ _ h=>h) (.inl ⟨by rfl,?_⟩) ?_ ?_ ?_;rotate_left;intro w';go_simp;with_reducible rfl;rotate_left;simp only [nS];rfl
    refine pu 6 (some 18) ?_ rfl rfl (by kernel_rfl) (fun _ _ _ h=>h) (.inl ⟨by rfl,?_⟩) ?_ ?_ ?_;rotate_left;intro w';go_simp;with_reducible rfl;rotate_left;simp only [nS];rfl
    refine pu 7 (some 19) ?_ rfl rfl (by kernel_rfl) (fun _ _ _ h=>h) (.inl ⟨by rfl,?_⟩) ?_ ?_ ?_;rotate_left;intro w';go_simp;with_reducible rfl;rotate_left;simp only [nS];rfl
    refine pu 8 (some 20) ?_ rfl rfl (by kernel_rfl) (fun _ _ _ h=>h) (.inl ⟨by rfl,?_⟩) ?_ ?_ ?_;rotate_left;intro w';go_simp;with_reducible rfl;rotate_left;simp only [nS];rfl
    refine tk 5 (some 17) ?_ rfl rfl (by kernel_rfl) (fun _ _ _ h=>h) (.inl ⟨by rfl,?_⟩) hHeld ?_ ?_ ?_;rotate_left;rintro w' ⟨s0,s1,s2,s3,s4,s5,s6,s7⟩;go_simp;with_reducible rfl;rotate_left;simp only [nS];rfl
    refine tk 9 (some 21) ?_ rfl rfl (by kernel_rfl) (fun _ _ _ h=>h) (.inl ⟨by rfl,?_⟩) hHeld ?_ ?_ ?_;rotate_left;rintro w' ⟨s0,s1,s2,s3,s4,s5,s6,s7⟩;go_simp;with_reducible rfl;rotate_left;simp only [nS];rfl
    refine last_ (i:=10) (N:=some 22) #[true,true,true,true,true,true,true,true,true,true,true,false] rfl rfl (by kernel_rfl) (by decide) (fun K hK=>?_)
    refine goesv_ #[] #[.agg #[.int .i64 x.f0,.int .i64 x.f1,.int .i64 x.f2,.int .i64 x.f3],.agg #[.int .i64 y.f0,.int .i64 y.f1,.int .i64 y.f2,.int .i64 y.f3]] eg (by rfl) rfl rfl (by rfl) (by simp only [List.map_toArray,List.map_cons,List.map_nil];rfl) ?_
    refine HCALL.out.mono ?_
    rintro e w3 ⟨rfl,hk3⟩
    refine ⟨_,rfl,?_⟩
    refine hK.out _ _ ?_
    clear hK K
    refine norm_ (a':=?_) ?_ ?_;rotate_left;show Act.put _ (some 22) _=_;simp only [nS];rfl
    refine pu 11 (some 23) ?_ rfl rfl (by kernel_rfl) (fun _ _ _ h=>h) (.inl ⟨by rfl,?_⟩) ?_ ?_ ?_;rotate_left;intro w';go_simp;with_reducible rfl;rotate_left;simp only [nS];rfl
    refine done_ (by kernel_rfl) ?_
    have HB3:=aK (below_step (below_drew1 HB.out) hk3)
    clear hk3
    go_wp2
    go_roundg (l0.length-(kk+1))
    case measure=>omega
    case rel=>exact ⟨j+1,kk+1,⟨by rw [HK.out]⟩,by omega,congrArg (Value.int .i64) HSTEP.out,⟨by omega⟩,HI3,HB3⟩
   | false =>
    have HOK:Aside0 ((decide (v<0))=false):=⟨by rw [← hokxy];exact hob⟩
    have HI3:Aside0 (chainB ok l0=false):=⟨by rw [HI2.out,hob];rfl⟩
    clear hokxy HI2 hob
    have HV2:Aside0 (0≤v):=⟨by have:=HOK.out;simp only [decide_eq_false_iff_not] at this;omega⟩
    have hvb:decide (v≥0)=true:=decide_eq_true (by have:=HV2.out;omega)
    have hvc:decide (0≤v)=true:=hvb
    go_wp2
    refine start_ (n:=12) (S:=fun w'=>w'.cell? (ad.add (j*4))=some (.int .i64 x.f0)∧w'.cell? ⟨(ad.add (j*4)).block,(ad.add (j*4)).off+1,none⟩=some (.int .i64 x.f1)∧w'.cell? ⟨(ad.add (j*4)).block,(ad.add (j*4)).off+2,none⟩=some (.int .i64 x.f2)∧w'.cell? ⟨(ad.add (j*4)).block,(ad.add (j*4)).off+3,none⟩=some (.int .i64 x.f3)∧w'.cell? (ad.add (kk*4))=some (.int .i64 y.f0)∧w'.cell? ⟨(ad.add (kk*4)).block,(ad.add (kk*4)).off+1,none⟩=some (.int .i64 y.f1)∧w'.cell? ⟨(ad.add (kk*4)).block,(ad.add (kk*4)).off+2,none⟩=some (.int .i64 y.f2)∧w'.cell? ⟨(ad.add (kk*4)).block,(ad.add (kk*4)).off+3,none⟩=some (.int .i64 y.f3)) (ds:=[10]) #[false,false,false,false,false,false,false,false,false,false,false,false] (by kernel_rfl) rfl rfl ⟨P0.out,P1.out,P2.out,P3.out,P4.out,P5.out,P6.out,P7.out⟩ (fun hHeld=>?_)
    refine pu 0 (some 12) ?_ rfl rfl (by kernel_rfl) (fun _ _ _ h=>h) (.inl ⟨by rfl,?_⟩) ?_ ?_ ?_;rotate_left;intro w';go_simp;with_reducible rfl;rotate_left;simp only [nS];rfl
    refine pu 1 (some 13) ?_ rfl rfl (by kernel_rfl) (fun _ _ _ h=>h) (.inl ⟨by rfl,?_⟩) ?_ ?_ ?_;rotate_left;intro w';go_simp;with_reducible rfl;rotate_left;simp only [nS];rfl
    refine pu 2 (some 14) ?_ rfl rfl (by kernel_rfl) (fun _ _ _ h=>h) (.inl ⟨by rfl,?_⟩) ?_ ?_ ?_;rotate_left;intro w';go_simp;with_reducible rfl;rotate_left;simp only [nS];rfl
    refine pu 3 (some 15) ?_ rfl rfl (by kernel_rfl) (fun _ _ _ h=>h) (.inl ⟨by rfl,?_⟩) ?_ ?_ ?_;rotate_left;intro w';go_simp;with_reducible rfl;rotate_left;simp only [nS];rfl
    refine pu 4 (some 16) ?_ rfl rfl (by kernel_rfl) (fun _ _ _ h=>h) (.inl ⟨by rfl,?_⟩) ?_ ?_ ?_;rotate_left;intro w';go_simp;with_reducible rfl;rotate_left;simp only [nS];rfl
    refine pu 6 (some 18) ?_ rfl rfl (by kernel_rfl) (fun _ _ _ h=>h) (.inl ⟨by rfl,?_⟩) ?_ ?_ ?_;rotate_left;intro w';go_simp;with_reducible rfl;rotate_left;simp only [nS];rfl
    refine pu 7 (some 19) ?_ rfl rfl (by kernel_rfl) (fun _ _ _ h=>h) (.inl ⟨by rfl,?_⟩) ?_ ?_ ?_;rotate_left;intro w';go_simp;with_reducible rfl;rotate_left;simp only [nS];rfl
    refine pu 8 (some 20) ?_ rfl rfl (by kernel_rfl) (fun _ _ _ h=>h) (.inl ⟨by rfl,?_⟩) ?_ ?_ ?_;rotate_left;intro w';go_simp;with_reducible rfl;rotate_left;simp only [nS];rfl
    refine tk 5 (some 17) ?_ rfl rfl (by kernel_rfl) (fun _ _ _ h=>h) (.inl ⟨by rfl,?_⟩) hHeld ?_ ?_ ?_;rotate_left;rintro w' ⟨s0,s1,s2,s3,s4,s5,s6,s7⟩;go_simp;with_reducible rfl;rotate_left;simp only [nS];rfl
    refine tk 9 (some 21) ?_ rfl rfl (by kernel_rfl) (fun _ _ _ h=>h) (.inl ⟨by rfl,?_⟩) hHeld ?_ ?_ ?_;rotate_left;rintro w' ⟨s0,s1,s2,s3,s4,s5,s6,s7⟩;go_simp;with_reducible rfl;rotate_left;simp only [nS];rfl
    refine last_ (i:=10) (N:=some 22) #[true,true,true,true,true,true,true,true,true,true,true,false] rfl rfl (by kernel_rfl) (by decide) (fun K hK=>?_)
    refine goesv_ #[] #[.agg #[.int .i64 x.f0,.int .i64 x.f1,.int .i64 x.f2,.int .i64 x.f3],.agg #[.int .i64 y.f0,.int .i64 y.f1,.int .i64 y.f2,.int .i64 y.f3]] eg (by rfl) rfl rfl (by rfl) (by simp only [List.map_toArray,List.map_cons,List.map_nil];rfl) ?_
    refine HCALL.out.mono ?_
    rintro e w3 ⟨rfl,hk3⟩
    refine ⟨_,rfl,?_⟩
    refine hK.out _ _ ?_
    clear hK K
    refine norm_ (a':=?_) ?_ ?_;rotate_left;show Act.put _ (some 22) _=_;simp only [nS];rfl
    refine pu 11 (some 23) ?_ rfl rfl (by kernel_rfl) (fun _ _ _ h=>h) (.inl ⟨by rfl,?_⟩) ?_ ?_ ?_;rotate_left;intro w';go_simp;with_reducible rfl;rotate_left;simp only [nS];rfl
    refine done_ (by kernel_rfl) ?_
    have HB3:=aK (below_step (below_drew1 HB.out) hk3)
    clear hk3
    go_wp2
    go_ret
    exact ⟨by rw [HI3.out];rfl,HB3.out⟩
  ·have hlti : ¬ (kk:Int)<(l0.length:Int):=by omega
   have HI3:Aside0 (chainB ok l0=true):=⟨by rw [HI.out];exact chainB_short _ (by have:=HK.out;simp;omega)⟩
   clear HI
   go_wp2
   go_ret
   exact ⟨by rw [HI3.out];rfl,HB.out⟩
def cmp_isNaN_int.f (a0:Int):Option (Bool):=some (a0 != a0)
set_option maxHeartbeats 8000000 in
theorem cmp_isNaN_int.calls (a0 : Int) (r : Bool) (w : World) (h : cmp_isNaN_int.f a0 = some r) :
  Calls Tryz.prog 104 #[.int .i64 a0] w fun e w'=>e = .returned (.bool r)∧Drawn0 w w':=by
 have H:(some (a0 != a0))=some r:=h
 clear h
 obtain rfl:=Option.some.inj H
 go_enter Tryz.func104,Tryz.ntmps104
 go_wp2
 go_ret
 exact ⟨by first|rfl|(simp;done)|(simp [*];done),by repeat (first|exact Drawn0.refl _|apply Drawn0.step)⟩
def cmp_Compare_int.f (a0:Int) (a1:Int):Option (Int):=(cmp_isNaN_int.f a0).bind fun t108=>((cmp_isNaN_int.f a1).bind fun t109=>(if t108=true then (if t109=true then (some 0) else (some (-1))) else (if t109=true then (some 1) else (if a0<a1 then (some (-1)) else (if a0>a1 then (some 1) else (some 0))))))
set_option maxHeartbeats 8000000 in
theorem cmp_Compare_int.calls (a0 : Int) (a1 : Int) (r : Int) (w : World) (h : cmp_Compare_int.f a0 a1 = some r) :
  Calls Tryz.prog 86 #[.int .i64 a0,.int .i64 a1] w fun e w'=>e = .returned (.int .i64 r)∧Drawn0 w w':=by
 have H:((cmp_isNaN_int.f a0).bind fun t108=>((cmp_isNaN_int.f a1).bind fun t109=>(if t108=true then (if t109=true then (some 0) else (some (-1))) else (if t109=true then (some 1) else (if a0<a1 then (some (-1)) else (if a0>a1 then (some 1) else (some 0)))))))=some r:=h
 clear h
 replace H:=Option.bind_eq_some_iff.mp H
 obtain ⟨t108,A30,H⟩:=H
 replace H:((cmp_isNaN_int.f a1).bind fun t109=>(if t108=true then (if t109=true then (some 0) else (some (-1))) else (if t109=true then (some 1) else (if a0<a1 then (some (-1)) else (if a0>a1 then (some 1) else (some 0))))))=some r:=H
 have A3:=aK A30
 clear A30
 replace H:=Option.bind_eq_some_iff.mp H
 obtain ⟨t109,A40,H⟩:=H
 replace H:(if t108=true then (if t109=true then (some 0) else (some (-1))) else (if t109=true then (some 1) else (if a0<a1 then (some (-1)) else (if a0>a1 then (some 1) else (some 0)))))=some r:=H
 have A4:=aK A40
 clear A40
 by_cases c5:t108=true
 ·subst c5
  have H1:(if t109=true then (some 0) else (some (-1)))=some r:=by rw [if_pos rfl] at H;exact H
  clear H
  have H:=H1
  clear H1
  by_cases c6:t109=true
  ·subst c6
   have H1:(some 0)=some r:=by rw [if_pos rfl] at H;exact H
   clear H
   have H:=H1
   clear H1
   obtain rfl:=Option.some.inj H
   go_enter Tryz.func86,Tryz.ntmps86
   go_wp2_with (first|((with_reducible refine gate_callee (f:=104) rfl ?_);refine goesL_ (some 8) rfl rfl Tryz.func104 (by kernel_rfl) rfl #[.int .i64 a0] rfl (by (try simp only [List.map_toArray,List.map_cons,List.map_nil]);first|done|rfl|(simp only [List.length_drop,List.length_take];rfl)) ?_;(with_reducible refine (cmp_isNaN_int.calls a0 true _ A3.out).mono ?_);rintro e w' ⟨rfl,⟨nd,rfl⟩⟩;refine ⟨_,rfl,?_⟩)|((with_reducible refine gate_callee (f:=104) rfl ?_);refine goesL_ (some 10) rfl rfl Tryz.func104 (by kernel_rfl) rfl #[.int .i64 a1] rfl (by (try simp only [List.map_toArray,List.map_cons,List.map_nil]);first|done|rfl|(simp only [List.length_drop,List.length_take];rfl)) ?_;(with_reducible refine (cmp_isNaN_int.calls a1 true _ A4.out).mono ?_);rintro e w' ⟨rfl,⟨nd,rfl⟩⟩;refine ⟨_,rfl,?_⟩))
   go_ret
   exact ⟨by first|rfl|(simp;done)|(simp [*];done),by repeat (first|exact Drawn0.refl _|apply Drawn0.step)⟩
  ·replace c6:=Bool.eq_false_iff.mpr c6
   subst c6
   have H1:(some (-1))=some r:=by rw [if_neg (show ¬ (false=true) by decide)] at H;exact H
   clear H
   have H:=H1
   clear H1
   obtain rfl:=Option.some.inj H
   go_enter Tryz.func86,Tryz.ntmps86
   go_wp2_with (first|((with_reducible refine gate_callee (f:=104) rfl ?_);refine goesL_ (some 8) rfl rfl Tryz.func104 (by kernel_rfl) rfl #[.int .i64 a0] rfl (by (try simp only [List.map_toArray,List.map_cons,List.map_nil]);first|done|rfl|(simp only [List.length_drop,List.length_take];rfl)) ?_;(with_reducible refine (cmp_isNaN_int.calls a0 true _ A3.out).mono ?_);rintro e w' ⟨rfl,⟨nd,rfl⟩⟩;refine ⟨_,rfl,?_⟩)|((with_reducible refine gate_callee (f:=104) rfl ?_);refine goesL_ (some 10) rfl rfl Tryz.func104 (by kernel_rfl) rfl #[.int .i64 a1] rfl (by (try simp only [List.map_toArray,List.map_cons,List.map_nil]);first|done|rfl|(simp only [List.length_drop,List.length_take];rfl)) ?_;(with_reducible refine (cmp_isNaN_int.calls a1 false _ A4.out).mono ?_);rintro e w' ⟨rfl,⟨nd,rfl⟩⟩;refine ⟨_,rfl,?_⟩))
   go_ret
   exact ⟨by first|rfl|(simp;done)|(simp [*];done),by repeat (first|exact Drawn0.refl _|apply Drawn0.step)⟩
 ·replace c5:=Bool.eq_false_iff.mpr c5
  subst c5
  have H1:(if t109=true then (some 1) else (if a0<a1 then (some (-1)) else (if a0>a1 then (some 1) else (some 0))))=some r:=by rw [if_neg (show ¬ (false=true) by decide)] at H;exact H
  clear H
  have H:=H1
  clear H1
  by_cases c7:t109=true
  ·subst c7
   have H1:(some 1)=some r:=by rw [if_pos rfl] at H;exact H
   clear H
   have H:=H1
   clear H1
   obtain rfl:=Option.some.inj H
   go_enter Tryz.func86,Tryz.ntmps86
   go_wp2_with (first|((with_reducible refine gate_callee (f:=104) rfl ?_);refine goesL_ (some 8) rfl rfl Tryz.func104 (by kernel_rfl) rfl #[.int .i64 a0] rfl (by (try simp only [List.map_toArray,List.map_cons,List.map_nil]);first|done|rfl|(simp only [List.length_drop,List.length_take];rfl)) ?_;(with_reducible refine (cmp_isNaN_int.calls a0 false _ A3.out).mono ?_);rintro e w' ⟨rfl,⟨nd,rfl⟩⟩;refine ⟨_,rfl,?_⟩)|((with_reducible refine gate_callee (f:=104) rfl ?_);refine goesL_ (some 10) rfl rfl Tryz.func104 (by kernel_rfl) rfl #[.int .i64 a1] rfl (by (try simp only [List.map_toArray,List.map_cons,List.map_nil]);first|done|rfl|(simp only [List.length_drop,List.length_take];rfl)) ?_;(with_reducible refine (cmp_isNaN_int.calls a1 true _ A4.out).mono ?_);rintro e w' ⟨rfl,⟨nd,rfl⟩⟩;refine ⟨_,rfl,?_⟩))
   go_ret
   exact ⟨by first|rfl|(simp;done)|(simp [*];done),by repeat (first|exact Drawn0.refl _|apply Drawn0.step)⟩
  ·replace c7:=Bool.eq_false_iff.mpr c7
   subst c7
   have H1:(if a0<a1 then (some (-1)) else (if a0>a1 then (some 1) else (some 0)))=some r:=by rw [if_neg (show ¬ (false=true) by decide)] at H;exact H
   clear H
   have H:=H1
   clear H1
   by_cases c8:a0<a1
   ·rw [if_pos c8] at H
    have c8b0:decide (a0<a1)=true:=decide_eq_true c8
    clear c8
    obtain rfl:=Option.some.inj H
    go_enter Tryz.func86,Tryz.ntmps86
    go_wp2_with (first|((with_reducible refine gate_callee (f:=104) rfl ?_);refine goesL_ (some 8) rfl rfl Tryz.func104 (by kernel_rfl) rfl #[.int .i64 a0] rfl (by (try simp only [List.map_toArray,List.map_cons,List.map_nil]);first|done|rfl|(simp only [List.length_drop,List.length_take];rfl)) ?_;(with_reducible refine (cmp_isNaN_int.calls a0 false _ A3.out).mono ?_);rintro e w' ⟨rfl,⟨nd,rfl⟩⟩;refine ⟨_,rfl,?_⟩)|((with_reducible refine gate_callee (f:=104) rfl ?_);refine goesL_ (some 10) rfl rfl Tryz.func104 (by kernel_rfl) rfl #[.int .i64 a1] rfl (by (try simp only [List.map_toArray,List.map_cons,List.map_nil]);first|done|rfl|(simp only [List.length_drop,List.length_take];rfl)) ?_;(with_reducible refine (cmp_isNaN_int.calls a1 false _ A4.out).mono ?_);rintro e w' ⟨rfl,⟨nd,rfl⟩⟩;refine ⟨_,rfl,?_⟩))
    go_ret
    exact ⟨by first|rfl|(simp;done)|(simp [*];done),by repeat (first|exact Drawn0.refl _|apply Drawn0.step)⟩
   ·rw [if_neg c8] at H
    have c8b0:decide (a0<a1)=false:=decide_eq_false c8
    clear c8
    by_cases c9:a0>a1
    ·rw [if_pos c9] at H
     have c9b0:decide (a1<a0)=true:=decide_eq_true c9
     clear c9
     obtain rfl:=Option.some.inj H
     go_enter Tryz.func86,Tryz.ntmps86
     go_wp2_with (first|((with_reducible refine gate_callee (f:=104) rfl ?_);refine goesL_ (some 8) rfl rfl Tryz.func104 (by kernel_rfl) rfl #[.int .i64 a0] rfl (by (try simp only [List.map_toArray,List.map_cons,List.map_nil]);first|done|rfl|(simp only [List.length_drop,List.length_take];rfl)) ?_;(with_reducible refine (cmp_isNaN_int.calls a0 false _ A3.out).mono ?_);rintro e w' ⟨rfl,⟨nd,rfl⟩⟩;refine ⟨_,rfl,?_⟩)|((with_reducible refine gate_callee (f:=104) rfl ?_);refine goesL_ (some 10) rfl rfl Tryz.func104 (by kernel_rfl) rfl #[.int .i64 a1] rfl (by (try simp only [List.map_toArray,List.map_cons,List.map_nil]);first|done|rfl|(simp only [List.length_drop,List.length_take];rfl)) ?_;(with_reducible refine (cmp_isNaN_int.calls a1 false _ A4.out).mono ?_);rintro e w' ⟨rfl,⟨nd,rfl⟩⟩;refine ⟨_,rfl,?_⟩))
     go_ret
     exact ⟨by first|rfl|(simp;done)|(simp [*];done),by repeat (first|exact Drawn0.refl _|apply Drawn0.step)⟩
    ·rw [if_neg c9] at H
     have c9b0:decide (a1<a0)=false:=decide_eq_false c9
     clear c9
     obtain rfl:=Option.some.inj H
     go_enter Tryz.func86,Tryz.ntmps86
     go_wp2_with (first|((with_reducible refine gate_callee (f:=104) rfl ?_);refine goesL_ (some 8) rfl rfl Tryz.func104 (by kernel_rfl) rfl #[.int .i64 a0] rfl (by (try simp only [List.map_toArray,List.map_cons,List.map_nil]);first|done|rfl|(simp only [List.length_drop,List.length_take];rfl)) ?_;(with_reducible refine (cmp_isNaN_int.calls a0 false _ A3.out).mono ?_);rintro e w' ⟨rfl,⟨nd,rfl⟩⟩;refine ⟨_,rfl,?_⟩)|((with_reducible refine gate_callee (f:=104) rfl ?_);refine goesL_ (some 10) rfl rfl Tryz.func104 (by kernel_rfl) rfl #[.int .i64 a1] rfl (by (try simp only [List.map_toArray,List.map_cons,List.map_nil]);first|done|rfl|(simp only [List.length_drop,List.length_take];rfl)) ?_;(with_reducible refine (cmp_isNaN_int.calls a1 false _ A4.out).mono ?_);rintro e w' ⟨rfl,⟨nd,rfl⟩⟩;refine ⟨_,rfl,?_⟩))
     go_ret
     exact ⟨by first|rfl|(simp;done)|(simp [*];done),by repeat (first|exact Drawn0.refl _|apply Drawn0.step)⟩
end Go.Proofs.YtoemkemmiikhlaaGreat.PF4
