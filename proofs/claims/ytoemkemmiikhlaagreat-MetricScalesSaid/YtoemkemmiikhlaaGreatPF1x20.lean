import Derived.Test.YtoemkemmiikhlaaGreatPF1x0
import Derived.Test.YtoemkemmiikhlaaGreatPF1x19
namespace Go.Proofs.YtoemkemmiikhlaaGreat.PF1
open Go.RowKit Go.Proofs.YtoemkemmiikhlaaGreatW.PrintWords Go.Proofs.YtoemkemmiikhlaaGreatW.PrintLast Go.Proofs.YtoemkemmiikhlaaGreatW.PrintMore
attribute [local go_sem] max2_int min2_int max_two min_two max_three min_three max_four min_four
set_option linter.unusedVariables false
set_option linter.unusedSimpArgs false
def fleuronref27_Rules.l0 : Nat → List (S45) → List (S45) → Int → Int → Option (Bool)
 | 0,_,_,_,_=>none
 | k+1,x0,x5,x6,x7=>if x7<x6 then (if 0≤x7 then (if x7<(x5.length:Int) then ((fleuronref27_rule.f k ((rd_T45 x5 x7).f0) ((rd_T45 x5 x7).f1) ((rd_T45 x5 x7).f2) ((rd_T45 x5 x7).f3)).bind fun t152=>(if t152=true then (if x7>0 then (if 0≤(wrap64 (x7-1)) then (if (wrap64 (x7-1))<(x0.length:Int) then ((fleuronref27_pair.f ((rd_T45 x0 (wrap64 (x7-1))).f0) ((rd_T45 x0 (wrap64 (x7-1))).f1) ((rd_T45 x0 (wrap64 (x7-1))).f2) ((rd_T45 x0 (wrap64 (x7-1))).f3)).bind fun t154=>((fleuronref27_pair.f ((rd_T45 x5 x7).f0) ((rd_T45 x5 x7).f1) ((rd_T45 x5 x7).f2) ((rd_T45 x5 x7).f3)).bind fun t155=>(if t154≥t155 then (some false) else (fleuronref27_Rules.l0 k x0 x5 x6 (wrap64 (x7+1)))))) else (none)) else (none)) else (fleuronref27_Rules.l0 k x0 x5 x6 (wrap64 (x7+1)))) else (some false))) else (none)) else (none)) else (some (decide ((x0.length:Int)≤500)))
def fleuronref27_Rules.f (k:Nat) (l0:List (S45)):Option (Bool):=fleuronref27_Rules.l0 k l0 l0 (l0.length:Int) 0
theorem fleuronref27_Rules.mono_l : ∀ k, (∀ y0 y1 y2 y3, LeO (fleuronref27_Rules.l0 k y0 y1 y2 y3) (fleuronref27_Rules.l0 (k + 1) y0 y1 y2 y3))
 | 0=>fun _ _ _ _ r h=>by simp [fleuronref27_Rules.l0] at h
 | k+1=>by
  have ih0:=fleuronref27_Rules.mono_l k
  ·intro y0 y1 y2 y3
   unfold fleuronref27_Rules.l0
   repeat' first
   | (with_reducible exact ih0 _ _ _ _)
   | (with_reducible exact fleuronref27_rule.mono _ _ _ _ _)
   | (with_reducible exact LeO.refl _)
   | (with_reducible exact LeO.none _)
   | (with_reducible refine LeO.ite ?_ ?_)
   | (with_reducible refine LeO.bind ?_ (fun _=>?_))
   | exact ih0 _ _ _ _
   | exact fleuronref27_rule.mono _ _ _ _ _
   | exact LeO.none _
   | refine LeO.ite ?_ ?_
   | refine LeO.bind ?_ (fun _=>?_)
theorem fleuronref27_Rules.mono : ∀ a0 k,LeO (fleuronref27_Rules.f k a0) (fleuronref27_Rules.f (k+1) a0):=by
 intro a0 k
 have ih0:=fleuronref27_Rules.mono_l k
 unfold fleuronref27_Rules.f
 repeat' first
   | (with_reducible exact ih0 _ _ _ _)
   | (with_reducible exact fleuronref27_rule.mono _ _ _ _ _)
   | (with_reducible exact LeO.refl _)
   | (with_reducible exact LeO.none _)
   | (with_reducible refine LeO.ite ?_ ?_)
   | (with_reducible refine LeO.bind ?_ (fun _=>?_))
   | exact ih0 _ _ _ _
   | exact fleuronref27_rule.mono _ _ _ _ _
   | exact LeO.none _
   | refine LeO.ite ?_ ?_
   | refine LeO.bind ?_ (fun _=>?_)
def fleuronref27_Rules.T4:Bool×List (List Nat×List Nat):=(true,[([],[]),([0],[0]),([1],[1]),([2,1],[2]),([3],[3]),([4,3],[3,4]),([5,3,3],[3,5]),([6],[6]),([6],[6]),([8,6],[6,8]),([7,9,6],[6,7,9]),([10,6],[6,10]),([11,6,6],[6,11]),([6],[6]),([13,12,6],[6,13]),([12,14,6],[6,12,14]),([6,15,3],[3,6,15]),([3,16],[3,16])])
def fleuronref27_Rules.B4:List Nat:=[0,1,3,7,15,31,63,127,127,383,1023,2047,4095,127,16383,32767,65535,131071]
theorem fleuronref27_Rules.tab4:rtab .any (opsOf Tryz.f40 4)=fleuronref27_Rules.T4:=by kernel_rfl
theorem fleuronref27_Rules.bits4:waitsOk fleuronref27_Rules.T4.2 fleuronref27_Rules.B4=true:=by kernel_rfl
set_option maxHeartbeats 8000000 in
set_option maxRecDepth 100000 in
theorem fleuronref27_Rules.calls (k : Nat) (A0 : Option Addr) (c0 : Nat) (l0 : List (S45)) (r : Bool) (w : World) (hr0 : Kd.C k45 w A0 l0.length l0) (hc0 : l0.length ≤ c0) (h : fleuronref27_Rules.f k l0 = some r) :
  Calls Tryz.prog 40 #[.slice A0 l0.length c0] w fun e w'=>e = .returned (.bool r)∧Below w.heap.size w w':=by
 have hu45:=Tryz.underlying45
 have HR0:=aK hr0
 have HC0:=aK hc0
 clear hr0 hc0
 have HB:=aK (Below.refl w.heap.size w)
 have H:(fleuronref27_Rules.l0 k l0 l0 (l0.length:Int) 0)=some r:=h
 clear h
 have H':=aK H
 clear H
 go_enter Tryz.func40,Tryz.ntmps40
 go_wp2
 go_loopg [7] k (fun kq v7 w'=>∃ (x7_1:Int),v7 = .int .i64 x7_1∧Aside0 (fleuronref27_Rules.l0 kq l0 l0 (l0.length:Int) x7_1=some r)∧Aside0 (kq≤k)∧Aside0 (Below w.heap.size w w'))
 case atStart=>exact ⟨(0),(by first|rfl|(simp;done)|(simp [*];done)),H',⟨Nat.le_refl _⟩,⟨by repeat (first|(with_reducible first|exact HB.out|apply below_alloc|apply pw_below_drewN|apply below_drew1)|exact HB.out)⟩⟩
 case round =>
  clear H'
  obtain ⟨x7_1,rfl,HA,HK1,HB⟩:=hrel
  cases gk with
  | zero=>exact absurd HA.out (by simp [fleuronref27_Rules.l0])
  | succ k1 =>
   have H:=HA.out
   clear HA
   simp only [fleuronref27_Rules.l0] at H
   by_cases c2:x7_1<(l0.length:Int)
   ·rw [if_pos c2] at H
    have c2b0:decide (x7_1<(l0.length:Int))=true:=decide_eq_true c2
    clear c2
    by_cases c3:0≤x7_1
    ·rw [if_pos c3] at H
     have c3b0:decide (0≤x7_1)=true:=decide_eq_true c3
     clear c3
     by_cases c4:x7_1<(l0.length:Int)
     ·rw [if_pos c4] at H
      have c4b0:decide (x7_1<(l0.length:Int))=true:=decide_eq_true c4
      clear c4
      replace H:=Option.bind_eq_some_iff.mp H
      obtain ⟨t152,A50,H⟩:=H
      replace H:(if t152=true then (if x7_1>0 then (if 0≤(wrap64 (x7_1-1)) then (if (wrap64 (x7_1-1))<(l0.length:Int) then ((fleuronref27_pair.f ((rd_T45 l0 (wrap64 (x7_1-1))).f0) ((rd_T45 l0 (wrap64 (x7_1-1))).f1) ((rd_T45 l0 (wrap64 (x7_1-1))).f2) ((rd_T45 l0 (wrap64 (x7_1-1))).f3)).bind fun t154=>((fleuronref27_pair.f ((rd_T45 l0 x7_1).f0) ((rd_T45 l0 x7_1).f1) ((rd_T45 l0 x7_1).f2) ((rd_T45 l0 x7_1).f3)).bind fun t155=>(if t154≥t155 then (some false) else (fleuronref27_Rules.l0 k1 l0 l0 (l0.length:Int) (wrap64 (x7_1+1)))))) else (none)) else (none)) else (fleuronref27_Rules.l0 k1 l0 l0 (l0.length:Int) (wrap64 (x7_1+1)))) else (some false))=some r:=H
      have A5:=aK A50
      clear A50
      by_cases c6:t152=true
      ·subst c6
       have H1:(if x7_1>0 then (if 0≤(wrap64 (x7_1-1)) then (if (wrap64 (x7_1-1))<(l0.length:Int) then ((fleuronref27_pair.f ((rd_T45 l0 (wrap64 (x7_1-1))).f0) ((rd_T45 l0 (wrap64 (x7_1-1))).f1) ((rd_T45 l0 (wrap64 (x7_1-1))).f2) ((rd_T45 l0 (wrap64 (x7_1-1))).f3)).bind fun t154=>((fleuronref27_pair.f ((rd_T45 l0 x7_1).f0) ((rd_T45 l0 x7_1).f1) ((rd_T45 l0 x7_1).f2) ((rd_T45 l0 x7_1).f3)).bind fun t155=>(if t154≥t155 then (some false) else (fleuronref27_Rules.l0 k1 l0 l0 (l0.length:Int) (wrap64 (x7_1+1)))))) else (none)) else (none)) else (fleuronref27_Rules.l0 k1 l0 l0 (l0.length:Int) (wrap64 (x7_1+1))))=some r:=by rw [if_pos rfl] at H;exact H
       clear H
       have H:=H1
       clear H1
       by_cases c7:x7_1>0
       ·rw [if_pos c7] at H
        have c7b0:decide (0<x7_1)=true:=decide_eq_true c7
        clear c7
        obtain ⟨ji8,hji8⟩ : ∃ j_:Int,(wrap64 (x7_1-1))=j_:=⟨_,rfl⟩
        replace H:(if 0≤(ji8) then (if (ji8)<(l0.length:Int) then ((fleuronref27_pair.f ((rd_T45 l0 (ji8)).f0) ((rd_T45 l0 (ji8)).f1) ((rd_T45 l0 (ji8)).f2) ((rd_T45 l0 (ji8)).f3)).bind fun t154=>((fleuronref27_pair.f ((rd_T45 l0 x7_1).f0) ((rd_T45 l0 x7_1).f1) ((rd_T45 l0 x7_1).f2) ((rd_T45 l0 x7_1).f3)).bind fun t155=>(if t154≥t155 then (some false) else (fleuronref27_Rules.l0 k1 l0 l0 (l0.length:Int) (wrap64 (x7_1+1)))))) else (none)) else (none))=some r:=by first|(rw [hji8] at H;exact H)|(simp only [hji8] at H ⊢;exact H)
        (try rw [hji8] at A5)
        have hji8w:(IntKind.i64.wrap (x7_1-1))=ji8:=(i64_w _).trans hji8
        by_cases c9:0≤(ji8)
        ·rw [if_pos c9] at H
         have c9b0:decide (0≤(ji8))=true:=decide_eq_true c9
         clear c9
         by_cases c10:(ji8)<(l0.length:Int)
         ·rw [if_pos c10] at H
          have c10b0:decide ((ji8)<(l0.length:Int))=true:=decide_eq_true c10
          clear c10
          replace H:=Option.bind_eq_some_iff.mp H
          obtain ⟨t154,A110,H⟩:=H
          replace H:((fleuronref27_pair.f ((rd_T45 l0 x7_1).f0) ((rd_T45 l0 x7_1).f1) ((rd_T45 l0 x7_1).f2) ((rd_T45 l0 x7_1).f3)).bind fun t155=>(if t154≥t155 then (some false) else (fleuronref27_Rules.l0 k1 l0 l0 (l0.length:Int) (wrap64 (x7_1+1)))))=some r:=H
          have A11:=aK A110
          clear A110
          replace H:=Option.bind_eq_some_iff.mp H
          obtain ⟨t155,A120,H⟩:=H
          replace H:(if t154≥t155 then (some false) else (fleuronref27_Rules.l0 k1 l0 l0 (l0.length:Int) (wrap64 (x7_1+1))))=some r:=H
          have A12:=aK A120
          clear A120
          by_cases c13:t154≥t155
          ·rw [if_pos c13] at H
           have c13b0:decide (t155≤t154)=true:=decide_eq_true c13
           clear c13
           obtain rfl:=Option.some.inj H
           have p150:0≤(x7_1:Int):=of_decide_eq_true (by first|(with_reducible assumption)|assumption)
           have q150:x7_1<(l0.length:Int):=of_decide_eq_true (by first|(with_reducible assumption)|assumption)
           obtain ⟨ad150,e150,hx150_0,hx150_1,hx150_2,hx150_3⟩:=at_T45 HR0.out x7_1 p150 q150
           cases e150
           replace hx150_0:=(HB.out.cell (World.block_lt_of_cell? w _ hx150_0)).trans hx150_0
           replace hx150_1:=(HB.out.cell (World.block_lt_of_cell? w _ hx150_1)).trans hx150_1
           replace hx150_2:=(HB.out.cell (World.block_lt_of_cell? w _ hx150_2)).trans hx150_2
           replace hx150_3:=(HB.out.cell (World.block_lt_of_cell? w _ hx150_3)).trans hx150_3
           replace p150:=eq_true p150
           replace q150:=eq_true q150
           try go_wp2_with (first|((with_reducible refine gate_dst (N:=4) rfl ?_);refine box_event ?hg (N:=4) ?hd (cs:=#[.int .i64 0,.int .i64 0,.int .i64 0,.int .i64 0]) (t:=45) ?hr ?_;(case hd=>rfl);(case hg=>rfl);(case hr=>first|(go_simp;done)|(go_simp;rfl));intro gb151 hg w14 hbox hb;have n0_:=aK (below_step (by repeat (first|(with_reducible first|exact HB.out|apply below_alloc|apply pw_below_drewN|apply below_drew1)|exact HB.out)) hb);have n1_:=aK (hbox);have n2_:=aK ((by rw [hg];exact (below_size (by repeat (first|(with_reducible first|exact HB.out|apply below_alloc|apply pw_below_drewN|apply below_drew1)|exact HB.out))):w.heap.size≤gb151));have n3_:=n2_;clear HB;have HB:=n0_;have BK151:=n1_;have GW151:=n2_;have GE151:=n3_;clear n0_ n1_ n2_ n3_;clear hb hbox hg;have hcz15_0:w14.cell? ⟨gb151,0,none⟩=some (.int .i64 0):=(blk_cell BK151.out 0).trans rfl;have hcz15_1:w14.cell? ⟨gb151,1,none⟩=some (.int .i64 0):=(blk_cell BK151.out 1).trans rfl;have hcz15_2:w14.cell? ⟨gb151,2,none⟩=some (.int .i64 0):=(blk_cell BK151.out 2).trans rfl;have hcz15_3:w14.cell? ⟨gb151,3,none⟩=some (.int .i64 0):=(blk_cell BK151.out 3).trans rfl;have hfz15_0:=blk_frozen BK151.out 0;have hfz15_1:=blk_frozen BK151.out 1;have hfz15_2:=blk_frozen BK151.out 2;have hfz15_3:=blk_frozen BK151.out 3))
           have n0_:Aside0 (((((w14.setCell ⟨gb151,0,none⟩ (.int .i64 ((rd_T45 l0 x7_1).f0))).setCell ⟨gb151,1,none⟩ (.int .i64 ((rd_T45 l0 x7_1).f1))).setCell ⟨gb151,2,none⟩ (.int .i64 ((rd_T45 l0 x7_1).f2))).setCell ⟨gb151,3,none⟩ (.int .i64 ((rd_T45 l0 x7_1).f3))).heap[gb151]?=some (.cells #[.int .i64 ((rd_T45 l0 x7_1).f0),.int .i64 ((rd_T45 l0 x7_1).f1),.int .i64 ((rd_T45 l0 x7_1).f2),.int .i64 ((rd_T45 l0 x7_1).f3)] 45 (0,0))):=⟨by (with_reducible repeat (first|refine blk_drewN ?_ _|refine blk_drew ?_|refine blk_alloc ?_ _));refine blk_put (cs:=#[.int .i64 ((rd_T45 l0 x7_1).f0),.int .i64 ((rd_T45 l0 x7_1).f1),.int .i64 ((rd_T45 l0 x7_1).f2),.int .i64 0]) ?_ 3 _ rfl;(with_reducible repeat (first|refine blk_drewN ?_ _|refine blk_drew ?_|refine blk_alloc ?_ _));refine blk_put (cs:=#[.int .i64 ((rd_T45 l0 x7_1).f0),.int .i64 ((rd_T45 l0 x7_1).f1),.int .i64 0,.int .i64 0]) ?_ 2 _ rfl;(with_reducible repeat (first|refine blk_drewN ?_ _|refine blk_drew ?_|refine blk_alloc ?_ _));refine blk_put (cs:=#[.int .i64 ((rd_T45 l0 x7_1).f0),.int .i64 0,.int .i64 0,.int .i64 0]) ?_ 1 _ rfl;(with_reducible repeat (first|refine blk_drewN ?_ _|refine blk_drew ?_|refine blk_alloc ?_ _));refine blk_put (cs:=#[.int .i64 0,.int .i64 0,.int .i64 0,.int .i64 0]) ?_ 0 _ rfl;(with_reducible repeat (first|refine blk_drewN ?_ _|refine blk_drew ?_|refine blk_alloc ?_ _));exact BK151.out⟩
           have n1_:Aside0 (Below w.heap.size w ((((w14.setCell ⟨gb151,0,none⟩ (.int .i64 ((rd_T45 l0 x7_1).f0))).setCell ⟨gb151,1,none⟩ (.int .i64 ((rd_T45 l0 x7_1).f1))).setCell ⟨gb151,2,none⟩ (.int .i64 ((rd_T45 l0 x7_1).f2))).setCell ⟨gb151,3,none⟩ (.int .i64 ((rd_T45 l0 x7_1).f3)))):=⟨by repeat (first|(with_reducible first|exact HB.out|apply below_alloc|apply pw_below_drewN|apply below_drew1|refine below_set ?_ GE151.out)|exact HB.out)⟩
           (try clear BK151)
           (try clear HB)
           generalize ((((w14.setCell ⟨gb151,0,none⟩ (.int .i64 ((rd_T45 l0 x7_1).f0))).setCell ⟨gb151,1,none⟩ (.int .i64 ((rd_T45 l0 x7_1).f1))).setCell ⟨gb151,2,none⟩ (.int .i64 ((rd_T45 l0 x7_1).f2))).setCell ⟨gb151,3,none⟩ (.int .i64 ((rd_T45 l0 x7_1).f3)))=w16 at n0_ n1_ ⊢
           have BK151:=n0_
           have HB:=n1_
           clear n0_ n1_
           have n0_:=aK (blk_drew BK151.out)
           have n1_:=aK (below_drew1 HB.out)
           clear BK151
           clear HB
           have BK151:=n0_
           have HB:=n1_
           clear n0_ n1_
           have p153:0≤((ji8):Int):=of_decide_eq_true (by first|(with_reducible assumption)|assumption)
           have q153:(ji8)<(l0.length:Int):=of_decide_eq_true (by first|(with_reducible assumption)|assumption)
           obtain ⟨ad153,e153,hx153_0,hx153_1,hx153_2,hx153_3⟩:=at_T45 HR0.out (ji8) p153 q153
           have hw153_3:=hx153_3
           have hw153_2:=hx153_2
           have hw153_1:=hx153_1
           have hw153_0:=hx153_0
           obtain rfl:ad150=ad153:=(by injection e153)
           replace hx153_0:=(HB.out.cell (World.block_lt_of_cell? w _ hx153_0)).trans hx153_0
           replace hx153_1:=(HB.out.cell (World.block_lt_of_cell? w _ hx153_1)).trans hx153_1
           replace hx153_2:=(HB.out.cell (World.block_lt_of_cell? w _ hx153_2)).trans hx153_2
           replace hx153_3:=(HB.out.cell (World.block_lt_of_cell? w _ hx153_3)).trans hx153_3
           replace p153:=eq_true p153
           replace q153:=eq_true q153
           refine start_ (n:=18) (S:=fun w'=>w'.cell? ⟨gb151,0,none⟩=some (.int .i64 ((rd_T45 l0 x7_1).f0))∧w'.cell? ⟨gb151,1,none⟩=some (.int .i64 ((rd_T45 l0 x7_1).f1))∧w'.cell? ⟨gb151,2,none⟩=some (.int .i64 ((rd_T45 l0 x7_1).f2))∧w'.cell? ⟨gb151,3,none⟩=some (.int .i64 ((rd_T45 l0 x7_1).f3))∧w'.cell? (ad150.add (((ji8)).toNat*4))=some (.int .i64 ((rd_T45 l0 (ji8)).f0))∧w'.cell? ⟨(ad150.add (((ji8)).toNat*4)).block,(ad150.add (((ji8)).toNat*4)).off+1,none⟩=some (.int .i64 ((rd_T45 l0 (ji8)).f1))∧w'.cell? ⟨(ad150.add (((ji8)).toNat*4)).block,(ad150.add (((ji8)).toNat*4)).off+2,none⟩=some (.int .i64 ((rd_T45 l0 (ji8)).f2))∧w'.cell? ⟨(ad150.add (((ji8)).toNat*4)).block,(ad150.add (((ji8)).toNat*4)).off+3,none⟩=some (.int .i64 ((rd_T45 l0 (ji8)).f3))) (ds:=[]) #[false,false,false,false,false,false,false,false,false,false,false,false,false,false,false,false,false,false] (by kernel_rfl) rfl rfl ⟨(blk_cell BK151.out 0).trans rfl,(blk_cell BK151.out 1).trans rfl,(blk_cell BK151.out 2).trans rfl,(blk_cell BK151.out 3).trans rfl,((HB.out.cell (World.block_lt_of_cell? w _ hw153_0)).trans hw153_0),((HB.out.cell (World.block_lt_of_cell? w _ hw153_1)).trans hw153_1),((HB.out.cell (World.block_lt_of_cell? w _ hw153_2)).trans hw153_2),((HB.out.cell (World.block_lt_of_cell? w _ hw153_3)).trans hw153_3)⟩ (fun hHeld=>?_);refine with_tabW fleuronref27_Rules.tab4 fleuronref27_Rules.bits4 (fun HT_ HW_=>?_)
           generalize w16.drew=w17 at BK151 HB hx153_0 hx153_1 hx153_2 hx153_3 hHeld ⊢
           refine take_ (i:=0) (N:=some 12) (v:=?_) (a':=?_) #[true,false,false,false,false,false,false,false,false,false,false,false,false,false,false,false,false,false] rfl rfl (take_ofW HT_.out HW_.out (by kernel_rfl)) (fun _ _ _ h=>h) (Or.inl ⟨by rfl,?_⟩) hHeld ?_ ?_
           rotate_left
           ·rintro w' ⟨s0,s1,s2,s3,s4,s5,s6,s7⟩
            go_simp
            with_reducible rfl
           rotate_left
           ·simp only [nS]
            rfl
           refine one_ (i:=1) (N:=some 13) #[true,true,false,false,false,false,false,false,false,false,false,false,false,false,false,false,false,false] rfl rfl (one_of HT_.out (by kernel_rfl)) (by decide) (fun K hK=>?_)
           refine goes_ Tryz.func56 (by kernel_rfl) rfl #[.agg #[.int .i64 ((rd_T45 l0 x7_1).f0),.int .i64 ((rd_T45 l0 x7_1).f1),.int .i64 ((rd_T45 l0 x7_1).f2),.int .i64 ((rd_T45 l0 x7_1).f3)]] (by rfl) rfl rfl (by (try simp only [List.map_toArray,List.map_cons,List.map_nil]);first|done|rfl|(simp only [List.length_drop,List.length_take];rfl)) ?_
           with_reducible refine (fleuronref27_rule.calls k1 ((rd_T45 l0 x7_1).f0) ((rd_T45 l0 x7_1).f1) ((rd_T45 l0 x7_1).f2) ((rd_T45 l0 x7_1).f3) true _ A5.out).mono ?_
           rintro e w18 ⟨rfl,hb⟩
           refine ⟨_,rfl,?_⟩
           have n0_:=aK (blk_below (g:=gb151) (o:=.cells #[.int .i64 ((rd_T45 l0 x7_1).f0),.int .i64 ((rd_T45 l0 x7_1).f1),.int .i64 ((rd_T45 l0 x7_1).f2),.int .i64 ((rd_T45 l0 x7_1).f3)] 45 (0,0)) (by (with_reducible repeat (first|refine blk_drewN ?_ _|refine blk_drew ?_|refine blk_alloc ?_ _));exact BK151.out) hb)
           have n1_:=aK (below_step (by repeat (first|(with_reducible first|exact HB.out|apply below_alloc|apply pw_below_drewN|apply below_drew1|refine below_set ?_ GE151.out)|exact HB.out)) hb)
           clear BK151
           clear HB
           have BK151:=n0_
           have HB:=n1_
           clear n0_ n1_
           (try clear hb)
           (try clear hb2)
           (try clear hk)
           (try clear hi)
           refine hK.out _ _ ⟨(blk_cell BK151.out 0).trans rfl,(blk_cell BK151.out 1).trans rfl,(blk_cell BK151.out 2).trans rfl,(blk_cell BK151.out 3).trans rfl,((HB.out.cell (World.block_lt_of_cell? w _ hw153_0)).trans hw153_0),((HB.out.cell (World.block_lt_of_cell? w _ hw153_1)).trans hw153_1),((HB.out.cell (World.block_lt_of_cell? w _ hw153_2)).trans hw153_2),((HB.out.cell (World.block_lt_of_cell? w _ hw153_3)).trans hw153_3)⟩ (fun hHeld=>?_)
           clear hK K
           refine norm_ (a':=?_) ?_ ?_;rotate_left;show Act.put _ (some 13) _=_;simp only [nS];rfl
           refine pure_ (i:=2) (N:=some 14) (v:=?_) (a':=?_) #[true,true,true,false,false,false,false,false,false,false,false,false,false,false,false,false,false,false] rfl rfl (any_of HT_.out (by kernel_rfl)) (fun _ _ _ h=>h) (Or.inl ⟨by rfl,?_⟩) ?_ ?_
           rotate_left
           ·intro w'
            go_simp
            with_reducible rfl
           rotate_left
           ·simp only [nS]
            rfl
           refine pure_ (i:=3) (N:=some 15) (v:=?_) (a':=?_) #[true,true,true,true,false,false,false,false,false,false,false,false,false,false,false,false,false,false] rfl rfl (any_of HT_.out (by kernel_rfl)) (fun _ _ _ h=>h) (Or.inl ⟨by rfl,?_⟩) ?_ ?_
           rotate_left
           ·intro w'
            go_simp
            with_reducible rfl
           rotate_left
           ·simp only [nS]
            rfl
           refine pure_ (i:=4) (N:=some 16) (v:=?_) (a':=?_) #[true,true,true,true,true,false,false,false,false,false,false,false,false,false,false,false,false,false] rfl rfl (any_of HT_.out (by kernel_rfl)) (fun _ _ _ h=>h) (Or.inl ⟨by rfl,?_⟩) ?_ ?_
           rotate_left
           ·intro w'
            go_simp
            with_reducible rfl
           rotate_left
           ·simp only [nS]
            rfl
           refine pure_ (i:=5) (N:=some 17) (v:=?_) (a':=?_) #[true,true,true,true,true,true,false,false,false,false,false,false,false,false,false,false,false,false] rfl rfl (any_of HT_.out (by kernel_rfl)) (fun _ _ _ h=>h) (Or.inl ⟨by rfl,?_⟩) ?_ ?_
           rotate_left
           ·intro w'
            go_simp
            with_reducible rfl
           rotate_left
           ·simp only [nS]
            rfl
           refine pure_ (i:=6) (N:=some 18) (v:=?_) (a':=?_) #[true,true,true,true,true,true,true,false,false,false,false,false,false,false,false,false,false,false] rfl rfl (any_of HT_.out (by kernel_rfl)) (fun _ _ _ h=>h) (Or.inl ⟨by rfl,?_⟩) ?_ ?_
           rotate_left
           ·intro w'
            go_simp
            with_reducible rfl
           rotate_left
           ·simp only [nS]
            rfl
           refine pure_ (i:=7) (N:=some 19) (v:=?_) (a':=?_) #[true,true,true,true,true,true,true,true,false,false,false,false,false,false,false,false,false,false] rfl rfl (any_of HT_.out (by kernel_rfl)) (fun _ _ _ h=>h) (Or.inl ⟨by rfl,?_⟩) ?_ ?_
           rotate_left
           ·intro w'
            go_simp
            with_reducible rfl
           rotate_left
           ·simp only [nS]
            rfl
           refine pure_ (i:=8) (N:=some 20) (v:=?_) (a':=?_) #[true,true,true,true,true,true,true,true,true,false,false,false,false,false,false,false,false,false] rfl rfl (any_of HT_.out (by kernel_rfl)) (fun _ _ _ h=>h) (Or.inl ⟨by rfl,?_⟩) ?_ ?_
           rotate_left
           ·intro w'
            go_simp
            with_reducible rfl
           rotate_left
           ·simp only [nS]
            rfl
           refine pure_ (i:=9) (N:=some 21) (v:=?_) (a':=?_) #[true,true,true,true,true,true,true,true,true,true,false,false,false,false,false,false,false,false] rfl rfl (any_of HT_.out (by kernel_rfl)) (fun _ _ _ h=>h) (Or.inl ⟨by rfl,?_⟩) ?_ ?_
           rotate_left
           ·intro w'
            go_simp
            with_reducible rfl
           rotate_left
           ·simp only [nS]
            rfl
           refine pure_ (i:=10) (N:=some 22) (v:=?_) (a':=?_) #[true,true,true,true,true,true,true,true,true,true,true,false,false,false,false,false,false,false] rfl rfl (any_of HT_.out (by kernel_rfl)) (fun _ _ _ h=>h) (Or.inl ⟨by rfl,?_⟩) ?_ ?_
           rotate_left
           ·intro w'
            go_simp
            with_reducible rfl
           rotate_left
           ·simp only [nS]
            rfl
           refine take_ (i:=11) (N:=some 23) (v:=?_) (a':=?_) #[true,true,true,true,true,true,true,true,true,true,true,true,false,false,false,false,false,false] rfl rfl (take_ofW HT_.out HW_.out (by kernel_rfl)) (fun _ _ _ h=>h) (Or.inl ⟨by rfl,?_⟩) hHeld ?_ ?_
           rotate_left
           ·rintro w' ⟨s0,s1,s2,s3,s4,s5,s6,s7⟩
            go_simp
            with_reducible rfl
           rotate_left
           ·simp only [nS]
            rfl
           refine take_ (i:=13) (N:=some 25) (v:=?_) (a':=?_) #[true,true,true,true,true,true,true,true,true,true,true,true,false,true,false,false,false,false] rfl rfl (take_ofW HT_.out HW_.out (by kernel_rfl)) (fun _ _ _ h=>h) (Or.inl ⟨by rfl,?_⟩) hHeld ?_ ?_
           rotate_left
           ·rintro w' ⟨s0,s1,s2,s3,s4,s5,s6,s7⟩
            go_simp
            with_reducible rfl
           rotate_left
           ·simp only [nS]
            rfl
           refine one_ (i:=12) (N:=some 24) #[true,true,true,true,true,true,true,true,true,true,true,true,true,true,false,false,false,false] rfl rfl (one_of HT_.out (by kernel_rfl)) (by decide) (fun K hK=>?_)
           refine goes_ Tryz.func57 (by kernel_rfl) rfl #[.agg #[.int .i64 ((rd_T45 l0 (ji8)).f0),.int .i64 ((rd_T45 l0 (ji8)).f1),.int .i64 ((rd_T45 l0 (ji8)).f2),.int .i64 ((rd_T45 l0 (ji8)).f3)]] (by rfl) rfl rfl (by (try simp only [List.map_toArray,List.map_cons,List.map_nil]);first|done|(simp only [hji8];rfl)|rfl|(simp only [List.length_drop,List.length_take];rfl)) ?_
           with_reducible refine (fleuronref27_pair.calls ((rd_T45 l0 (ji8)).f0) ((rd_T45 l0 (ji8)).f1) ((rd_T45 l0 (ji8)).f2) ((rd_T45 l0 (ji8)).f3) t154 _ A11.out).mono ?_
           rintro e w19 ⟨rfl,hb⟩
           refine ⟨_,rfl,?_⟩
           have n0_:=aK (blk_below (g:=gb151) (o:=.cells #[.int .i64 ((rd_T45 l0 x7_1).f0),.int .i64 ((rd_T45 l0 x7_1).f1),.int .i64 ((rd_T45 l0 x7_1).f2),.int .i64 ((rd_T45 l0 x7_1).f3)] 45 (0,0)) (by (with_reducible repeat (first|refine blk_drewN ?_ _|refine blk_drew ?_|refine blk_alloc ?_ _));exact BK151.out) hb)
           have n1_:=aK (below_step (by repeat (first|(with_reducible first|exact HB.out|apply below_alloc|apply pw_below_drewN|apply below_drew1|refine below_set ?_ GE151.out)|exact HB.out)) hb)
           clear BK151
           clear HB
           have BK151:=n0_
           have HB:=n1_
           clear n0_ n1_
           (try clear hb)
           (try clear hb2)
           (try clear hk)
           (try clear hi)
           refine hK.out _ _ ⟨(blk_cell BK151.out 0).trans rfl,(blk_cell BK151.out 1).trans rfl,(blk_cell BK151.out 2).trans rfl,(blk_cell BK151.out 3).trans rfl,((HB.out.cell (World.block_lt_of_cell? w _ hw153_0)).trans hw153_0),((HB.out.cell (World.block_lt_of_cell? w _ hw153_1)).trans hw153_1),((HB.out.cell (World.block_lt_of_cell? w _ hw153_2)).trans hw153_2),((HB.out.cell (World.block_lt_of_cell? w _ hw153_3)).trans hw153_3)⟩ (fun hHeld=>?_)
           clear hK K
           refine norm_ (a':=?_) ?_ ?_;rotate_left;show Act.put _ (some 24) _=_;simp only [nS];rfl
           refine one_ (i:=14) (N:=some 26) #[true,true,true,true,true,true,true,true,true,true,true,true,true,true,true,false,false,false] rfl rfl (one_of HT_.out (by kernel_rfl)) (by decide) (fun K hK=>?_)
           refine goes_ Tryz.func57 (by kernel_rfl) rfl #[.agg #[.int .i64 ((rd_T45 l0 x7_1).f0),.int .i64 ((rd_T45 l0 x7_1).f1),.int .i64 ((rd_T45 l0 x7_1).f2),.int .i64 ((rd_T45 l0 x7_1).f3)]] (by rfl) rfl rfl (by (try simp only [List.map_toArray,List.map_cons,List.map_nil]);first|done|rfl|(simp only [List.length_drop,List.length_take];rfl)) ?_
           with_reducible refine (fleuronref27_pair.calls ((rd_T45 l0 x7_1).f0) ((rd_T45 l0 x7_1).f1) ((rd_T45 l0 x7_1).f2) ((rd_T45 l0 x7_1).f3) t155 _ A12.out).mono ?_
           rintro e w20 ⟨rfl,hb⟩
           refine ⟨_,rfl,?_⟩
           have n0_:=aK (blk_below (g:=gb151) (o:=.cells #[.int .i64 ((rd_T45 l0 x7_1).f0),.int .i64 ((rd_T45 l0 x7_1).f1),.int .i64 ((rd_T45 l0 x7_1).f2),.int .i64 ((rd_T45 l0 x7_1).f3)] 45 (0,0)) (by (with_reducible repeat (first|refine blk_drewN ?_ _|refine blk_drew ?_|refine blk_alloc ?_ _));exact BK151.out) hb)
           have n1_:=aK (below_step (by repeat (first|(with_reducible first|exact HB.out|apply below_alloc|apply pw_below_drewN|apply below_drew1|refine below_set ?_ GE151.out)|exact HB.out)) hb)
           clear BK151
           clear HB
           have BK151:=n0_
           have HB:=n1_
           clear n0_ n1_
           (try clear hb)
           (try clear hb2)
           (try clear hk)
           (try clear hi)
           refine hK.out _ _ ⟨(blk_cell BK151.out 0).trans rfl,(blk_cell BK151.out 1).trans rfl,(blk_cell BK151.out 2).trans rfl,(blk_cell BK151.out 3).trans rfl,((HB.out.cell (World.block_lt_of_cell? w _ hw153_0)).trans hw153_0),((HB.out.cell (World.block_lt_of_cell? w _ hw153_1)).trans hw153_1),((HB.out.cell (World.block_lt_of_cell? w _ hw153_2)).trans hw153_2),((HB.out.cell (World.block_lt_of_cell? w _ hw153_3)).trans hw153_3)⟩ (fun hHeld=>?_)
           clear hK K
           refine norm_ (a':=?_) ?_ ?_;rotate_left;show Act.put _ (some 26) _=_;simp only [nS];rfl
           refine pure_ (i:=15) (N:=some 27) (v:=?_) (a':=?_) #[true,true,true,true,true,true,true,true,true,true,true,true,true,true,true,true,false,false] rfl rfl (any_of HT_.out (by kernel_rfl)) (fun _ _ _ h=>h) (Or.inl ⟨by rfl,?_⟩) ?_ ?_
           rotate_left
           ·intro w'
            go_simp
            with_reducible rfl
           rotate_left
           ·simp only [nS]
            rfl
           refine pure_ (i:=16) (N:=some 28) (v:=?_) (a':=?_) #[true,true,true,true,true,true,true,true,true,true,true,true,true,true,true,true,true,false] rfl rfl (any_of HT_.out (by kernel_rfl)) (fun _ _ _ h=>h) (Or.inl ⟨by rfl,?_⟩) ?_ ?_
           rotate_left
           ·intro w'
            go_simp
            with_reducible rfl
           rotate_left
           ·simp only [nS]
            rfl
           refine pure_ (i:=17) (N:=some 29) (v:=?_) (a':=?_) #[true,true,true,true,true,true,true,true,true,true,true,true,true,true,true,true,true,true] rfl rfl (any_of HT_.out (by kernel_rfl)) (fun _ _ _ h=>h) (Or.inl ⟨by rfl,?_⟩) ?_ ?_
           rotate_left
           ·intro w'
            go_simp
            with_reducible rfl
           rotate_left
           ·simp only [nS]
            rfl
           refine done_ (done_of HT_.out (by kernel_rfl)) ?_
           try go_wp2
           go_ret
           exact ⟨by first|rfl|(simp [errW_none,errW_some] <;> rfl)|(simp only [← hji8];first|rfl|(simp [errW_none,errW_some] <;> rfl))|(simp [*,errW_none,errW_some] <;> rfl),by repeat (first|(with_reducible first|exact HB.out|apply below_alloc|apply pw_below_drewN|apply below_drew1|refine below_set ?_ GE151.out)|exact HB.out)⟩
          ·rw [if_neg c13] at H
           have c13b0:decide (t155≤t154)=false:=decide_eq_false c13
           clear c13
           have H':=aK H
           clear H
           have p150:0≤(x7_1:Int):=of_decide_eq_true (by first|(with_reducible assumption)|assumption)
           have q150:x7_1<(l0.length:Int):=of_decide_eq_true (by first|(with_reducible assumption)|assumption)
           obtain ⟨ad150,e150,hx150_0,hx150_1,hx150_2,hx150_3⟩:=at_T45 HR0.out x7_1 p150 q150
           cases e150
           replace hx150_0:=(HB.out.cell (World.block_lt_of_cell? w _ hx150_0)).trans hx150_0
           replace hx150_1:=(HB.out.cell (World.block_lt_of_cell? w _ hx150_1)).trans hx150_1
           replace hx150_2:=(HB.out.cell (World.block_lt_of_cell? w _ hx150_2)).trans hx150_2
           replace hx150_3:=(HB.out.cell (World.block_lt_of_cell? w _ hx150_3)).trans hx150_3
           replace p150:=eq_true p150
           replace q150:=eq_true q150
           try go_wp2_with (first|((with_reducible refine gate_dst (N:=4) rfl ?_);refine box_event ?hg (N:=4) ?hd (cs:=#[.int .i64 0,.int .i64 0,.int .i64 0,.int .i64 0]) (t:=45) ?hr ?_;(case hd=>rfl);(case hg=>rfl);(case hr=>first|(go_simp;done)|(go_simp;rfl));intro gb151 hg w21 hbox hb;have n0_:=aK (below_step (by repeat (first|(with_reducible first|exact HB.out|apply below_alloc|apply pw_below_drewN|apply below_drew1)|exact HB.out)) hb);have n1_:=aK (hbox);have n2_:=aK ((by rw [hg];exact (below_size (by repeat (first|(with_reducible first|exact HB.out|apply below_alloc|apply pw_below_drewN|apply below_drew1)|exact HB.out))):w.heap.size≤gb151));have n3_:=n2_;clear HB;have HB:=n0_;have BK151:=n1_;have GW151:=n2_;have GE151:=n3_;clear n0_ n1_ n2_ n3_;clear hb hbox hg;have hcz22_0:w21.cell? ⟨gb151,0,none⟩=some (.int .i64 0):=(blk_cell BK151.out 0).trans rfl;have hcz22_1:w21.cell? ⟨gb151,1,none⟩=some (.int .i64 0):=(blk_cell BK151.out 1).trans rfl;have hcz22_2:w21.cell? ⟨gb151,2,none⟩=some (.int .i64 0):=(blk_cell BK151.out 2).trans rfl;have hcz22_3:w21.cell? ⟨gb151,3,none⟩=some (.int .i64 0):=(blk_cell BK151.out 3).trans rfl;have hfz22_0:=blk_frozen BK151.out 0;have hfz22_1:=blk_frozen BK151.out 1;have hfz22_2:=blk_frozen BK151.out 2;have hfz22_3:=blk_frozen BK151.out 3))
           have n0_:Aside0 (((((w21.setCell ⟨gb151,0,none⟩ (.int .i64 ((rd_T45 l0 x7_1).f0))).setCell ⟨gb151,1,none⟩ (.int .i64 ((rd_T45 l0 x7_1).f1))).setCell ⟨gb151,2,none⟩ (.int .i64 ((rd_T45 l0 x7_1).f2))).setCell ⟨gb151,3,none⟩ (.int .i64 ((rd_T45 l0 x7_1).f3))).heap[gb151]?=some (.cells #[.int .i64 ((rd_T45 l0 x7_1).f0),.int .i64 ((rd_T45 l0 x7_1).f1),.int .i64 ((rd_T45 l0 x7_1).f2),.int .i64 ((rd_T45 l0 x7_1).f3)] 45 (0,0))):=⟨by (with_reducible repeat (first|refine blk_drewN ?_ _|refine blk_drew ?_|refine blk_alloc ?_ _));refine blk_put (cs:=#[.int .i64 ((rd_T45 l0 x7_1).f0),.int .i64 ((rd_T45 l0 x7_1).f1),.int .i64 ((rd_T45 l0 x7_1).f2),.int .i64 0]) ?_ 3 _ rfl;(with_reducible repeat (first|refine blk_drewN ?_ _|refine blk_drew ?_|refine blk_alloc ?_ _));refine blk_put (cs:=#[.int .i64 ((rd_T45 l0 x7_1).f0),.int .i64 ((rd_T45 l0 x7_1).f1),.int .i64 0,.int .i64 0]) ?_ 2 _ rfl;(with_reducible repeat (first|refine blk_drewN ?_ _|refine blk_drew ?_|refine blk_alloc ?_ _));refine blk_put (cs:=#[.int .i64 ((rd_T45 l0 x7_1).f0),.int .i64 0,.int .i64 0,.int .i64 0]) ?_ 1 _ rfl;(with_reducible repeat (first|refine blk_drewN ?_ _|refine blk_drew ?_|refine blk_alloc ?_ _));refine blk_put (cs:=#[.int .i64 0,.int .i64 0,.int .i64 0,.int .i64 0]) ?_ 0 _ rfl;(with_reducible repeat (first|refine blk_drewN ?_ _|refine blk_drew ?_|refine blk_alloc ?_ _));exact BK151.out⟩
           have n1_:Aside0 (Below w.heap.size w ((((w21.setCell ⟨gb151,0,none⟩ (.int .i64 ((rd_T45 l0 x7_1).f0))).setCell ⟨gb151,1,none⟩ (.int .i64 ((rd_T45 l0 x7_1).f1))).setCell ⟨gb151,2,none⟩ (.int .i64 ((rd_T45 l0 x7_1).f2))).setCell ⟨gb151,3,none⟩ (.int .i64 ((rd_T45 l0 x7_1).f3)))):=⟨by repeat (first|(with_reducible first|exact HB.out|apply below_alloc|apply pw_below_drewN|apply below_drew1|refine below_set ?_ GE151.out)|exact HB.out)⟩
           (try clear BK151)
           (try clear HB)
           generalize ((((w21.setCell ⟨gb151,0,none⟩ (.int .i64 ((rd_T45 l0 x7_1).f0))).setCell ⟨gb151,1,none⟩ (.int .i64 ((rd_T45 l0 x7_1).f1))).setCell ⟨gb151,2,none⟩ (.int .i64 ((rd_T45 l0 x7_1).f2))).setCell ⟨gb151,3,none⟩ (.int .i64 ((rd_T45 l0 x7_1).f3)))=w23 at n0_ n1_ ⊢
           have BK151:=n0_
           have HB:=n1_
           clear n0_ n1_
           have n0_:=aK (blk_drew BK151.out)
           have n1_:=aK (below_drew1 HB.out)
           clear BK151
           clear HB
           have BK151:=n0_
           have HB:=n1_
           clear n0_ n1_
           have p153:0≤((ji8):Int):=of_decide_eq_true (by first|(with_reducible assumption)|assumption)
           have q153:(ji8)<(l0.length:Int):=of_decide_eq_true (by first|(with_reducible assumption)|assumption)
           obtain ⟨ad153,e153,hx153_0,hx153_1,hx153_2,hx153_3⟩:=at_T45 HR0.out (ji8) p153 q153
           have hw153_3:=hx153_3
           have hw153_2:=hx153_2
           have hw153_1:=hx153_1
           have hw153_0:=hx153_0
           obtain rfl:ad150=ad153:=(by injection e153)
           replace hx153_0:=(HB.out.cell (World.block_lt_of_cell? w _ hx153_0)).trans hx153_0
           replace hx153_1:=(HB.out.cell (World.block_lt_of_cell? w _ hx153_1)).trans hx153_1
           replace hx153_2:=(HB.out.cell (World.block_lt_of_cell? w _ hx153_2)).trans hx153_2
           replace hx153_3:=(HB.out.cell (World.block_lt_of_cell? w _ hx153_3)).trans hx153_3
           replace p153:=eq_true p153
           replace q153:=eq_true q153
           refine start_ (n:=18) (S:=fun w'=>w'.cell? ⟨gb151,0,none⟩=some (.int .i64 ((rd_T45 l0 x7_1).f0))∧w'.cell? ⟨gb151,1,none⟩=some (.int .i64 ((rd_T45 l0 x7_1).f1))∧w'.cell? ⟨gb151,2,none⟩=some (.int .i64 ((rd_T45 l0 x7_1).f2))∧w'.cell? ⟨gb151,3,none⟩=some (.int .i64 ((rd_T45 l0 x7_1).f3))∧w'.cell? (ad150.add (((ji8)).toNat*4))=some (.int .i64 ((rd_T45 l0 (ji8)).f0))∧w'.cell? ⟨(ad150.add (((ji8)).toNat*4)).block,(ad150.add (((ji8)).toNat*4)).off+1,none⟩=some (.int .i64 ((rd_T45 l0 (ji8)).f1))∧w'.cell? ⟨(ad150.add (((ji8)).toNat*4)).block,(ad150.add (((ji8)).toNat*4)).off+2,none⟩=some (.int .i64 ((rd_T45 l0 (ji8)).f2))∧w'.cell? ⟨(ad150.add (((ji8)).toNat*4)).block,(ad150.add (((ji8)).toNat*4)).off+3,none⟩=some (.int .i64 ((rd_T45 l0 (ji8)).f3))) (ds:=[]) #[false,false,false,false,false,false,false,false,false,false,false,false,false,false,false,false,false,false] (by kernel_rfl) rfl rfl ⟨(blk_cell BK151.out 0).trans rfl,(blk_cell BK151.out 1).trans rfl,(blk_cell BK151.out 2).trans rfl,(blk_cell BK151.out 3).trans rfl,((HB.out.cell (World.block_lt_of_cell? w _ hw153_0)).trans hw153_0),((HB.out.cell (World.block_lt_of_cell? w _ hw153_1)).trans hw153_1),((HB.out.cell (World.block_lt_of_cell? w _ hw153_2)).trans hw153_2),((HB.out.cell (World.block_lt_of_cell? w _ hw153_3)).trans hw153_3)⟩ (fun hHeld=>?_);refine with_tabW fleuronref27_Rules.tab4 fleuronref27_Rules.bits4 (fun HT_ HW_=>?_)
           generalize w23.drew=w24 at BK151 HB hx153_0 hx153_1 hx153_2 hx153_3 hHeld ⊢
           refine take_ (i:=0) (N:=some 12) (v:=?_) (a':=?_) #[true,false,false,false,false,false,false,false,false,false,false,false,false,false,false,false,false,false] rfl rfl (take_ofW HT_.out HW_.out (by kernel_rfl)) (fun _ _ _ h=>h) (Or.inl ⟨by rfl,?_⟩) hHeld ?_ ?_
           rotate_left
           ·rintro w' ⟨s0,s1,s2,s3,s4,s5,s6,s7⟩
            go_simp
            with_reducible rfl
           rotate_left
           ·simp only [nS]
            rfl
           refine one_ (i:=1) (N:=some 13) #[true,true,false,false,false,false,false,false,false,false,false,false,false,false,false,false,false,false] rfl rfl (one_of HT_.out (by kernel_rfl)) (by decide) (fun K hK=>?_)
           refine goes_ Tryz.func56 (by kernel_rfl) rfl #[.agg #[.int .i64 ((rd_T45 l0 x7_1).f0),.int .i64 ((rd_T45 l0 x7_1).f1),.int .i64 ((rd_T45 l0 x7_1).f2),.int .i64 ((rd_T45 l0 x7_1).f3)]] (by rfl) rfl rfl (by (try simp only [List.map_toArray,List.map_cons,List.map_nil]);first|done|rfl|(simp only [List.length_drop,List.length_take];rfl)) ?_
           with_reducible refine (fleuronref27_rule.calls k1 ((rd_T45 l0 x7_1).f0) ((rd_T45 l0 x7_1).f1) ((rd_T45 l0 x7_1).f2) ((rd_T45 l0 x7_1).f3) true _ A5.out).mono ?_
           rintro e w25 ⟨rfl,hb⟩
           refine ⟨_,rfl,?_⟩
           have n0_:=aK (blk_below (g:=gb151) (o:=.cells #[.int .i64 ((rd_T45 l0 x7_1).f0),.int .i64 ((rd_T45 l0 x7_1).f1),.int .i64 ((rd_T45 l0 x7_1).f2),.int .i64 ((rd_T45 l0 x7_1).f3)] 45 (0,0)) (by (with_reducible repeat (first|refine blk_drewN ?_ _|refine blk_drew ?_|refine blk_alloc ?_ _));exact BK151.out) hb)
           have n1_:=aK (below_step (by repeat (first|(with_reducible first|exact HB.out|apply below_alloc|apply pw_below_drewN|apply below_drew1|refine below_set ?_ GE151.out)|exact HB.out)) hb)
           clear BK151
           clear HB
           have BK151:=n0_
           have HB:=n1_
           clear n0_ n1_
           (try clear hb)
           (try clear hb2)
           (try clear hk)
           (try clear hi)
           refine hK.out _ _ ⟨(blk_cell BK151.out 0).trans rfl,(blk_cell BK151.out 1).trans rfl,(blk_cell BK151.out 2).trans rfl,(blk_cell BK151.out 3).trans rfl,((HB.out.cell (World.block_lt_of_cell? w _ hw153_0)).trans hw153_0),((HB.out.cell (World.block_lt_of_cell? w _ hw153_1)).trans hw153_1),((HB.out.cell (World.block_lt_of_cell? w _ hw153_2)).trans hw153_2),((HB.out.cell (World.block_lt_of_cell? w _ hw153_3)).trans hw153_3)⟩ (fun hHeld=>?_)
           clear hK K
           refine norm_ (a':=?_) ?_ ?_;rotate_left;show Act.put _ (some 13) _=_;simp only [nS];rfl
           refine pure_ (i:=2) (N:=some 14) (v:=?_) (a':=?_) #[true,true,true,false,false,false,false,false,false,false,false,false,false,false,false,false,false,false] rfl rfl (any_of HT_.out (by kernel_rfl)) (fun _ _ _ h=>h) (Or.inl ⟨by rfl,?_⟩) ?_ ?_
           rotate_left
           ·intro w'
            go_simp
            with_reducible rfl
           rotate_left
           ·simp only [nS]
            rfl
           refine pure_ (i:=3) (N:=some 15) (v:=?_) (a':=?_) #[true,true,true,true,false,false,false,false,false,false,false,false,false,false,false,false,false,false] rfl rfl (any_of HT_.out (by kernel_rfl)) (fun _ _ _ h=>h) (Or.inl ⟨by rfl,?_⟩) ?_ ?_
           rotate_left
           ·intro w'
            go_simp
            with_reducible rfl
           rotate_left
           ·simp only [nS]
            rfl
           refine pure_ (i:=4) (N:=some 16) (v:=?_) (a':=?_) #[true,true,true,true,true,false,false,false,false,false,false,false,false,false,false,false,false,false] rfl rfl (any_of HT_.out (by kernel_rfl)) (fun _ _ _ h=>h) (Or.inl ⟨by rfl,?_⟩) ?_ ?_
           rotate_left
           ·intro w'
            go_simp
            with_reducible rfl
           rotate_left
           ·simp only [nS]
            rfl
           refine pure_ (i:=5) (N:=some 17) (v:=?_) (a':=?_) #[true,true,true,true,true,true,false,false,false,false,false,false,false,false,false,false,false,false] rfl rfl (any_of HT_.out (by kernel_rfl)) (fun _ _ _ h=>h) (Or.inl ⟨by rfl,?_⟩) ?_ ?_
           rotate_left
           ·intro w'
            go_simp
            with_reducible rfl
           rotate_left
           ·simp only [nS]
            rfl
           refine pure_ (i:=6) (N:=some 18) (v:=?_) (a':=?_) #[true,true,true,true,true,true,true,false,false,false,false,false,false,false,false,false,false,false] rfl rfl (any_of HT_.out (by kernel_rfl)) (fun _ _ _ h=>h) (Or.inl ⟨by rfl,?_⟩) ?_ ?_
           rotate_left
           ·intro w'
            go_simp
            with_reducible rfl
           rotate_left
           ·simp only [nS]
            rfl
           refine pure_ (i:=7) (N:=some 19) (v:=?_) (a':=?_) #[true,true,true,true,true,true,true,true,false,false,false,false,false,false,false,false,false,false] rfl rfl (any_of HT_.out (by kernel_rfl)) (fun _ _ _ h=>h) (Or.inl ⟨by rfl,?_⟩) ?_ ?_
           rotate_left
           ·intro w'
            go_simp
            with_reducible rfl
           rotate_left
           ·simp only [nS]
            rfl
           refine pure_ (i:=8) (N:=some 20) (v:=?_) (a':=?_) #[true,true,true,true,true,true,true,true,true,false,false,false,false,false,false,false,false,false] rfl rfl (any_of HT_.out (by kernel_rfl)) (fun _ _ _ h=>h) (Or.inl ⟨by rfl,?_⟩) ?_ ?_
           rotate_left
           ·intro w'
            go_simp
            with_reducible rfl
           rotate_left
           ·simp only [nS]
            rfl
           refine pure_ (i:=9) (N:=some 21) (v:=?_) (a':=?_) #[true,true,true,true,true,true,true,true,true,true,false,false,false,false,false,false,false,false] rfl rfl (any_of HT_.out (by kernel_rfl)) (fun _ _ _ h=>h) (Or.inl ⟨by rfl,?_⟩) ?_ ?_
           rotate_left
           ·intro w'
            go_simp
            with_reducible rfl
           rotate_left
           ·simp only [nS]
            rfl
           refine pure_ (i:=10) (N:=some 22) (v:=?_) (a':=?_) #[true,true,true,true,true,true,true,true,true,true,true,false,false,false,false,false,false,false] rfl rfl (any_of HT_.out (by kernel_rfl)) (fun _ _ _ h=>h) (Or.inl ⟨by rfl,?_⟩) ?_ ?_
           rotate_left
           ·intro w'
            go_simp
            with_reducible rfl
           rotate_left
           ·simp only [nS]
            rfl
           refine take_ (i:=11) (N:=some 23) (v:=?_) (a':=?_) #[true,true,true,true,true,true,true,true,true,true,true,true,false,false,false,false,false,false] rfl rfl (take_ofW HT_.out HW_.out (by kernel_rfl)) (fun _ _ _ h=>h) (Or.inl ⟨by rfl,?_⟩) hHeld ?_ ?_
           rotate_left
           ·rintro w' ⟨s0,s1,s2,s3,s4,s5,s6,s7⟩
            go_simp
            with_reducible rfl
           rotate_left
           ·simp only [nS]
            rfl
           refine take_ (i:=13) (N:=some 25) (v:=?_) (a':=?_) #[true,true,true,true,true,true,true,true,true,true,true,true,false,true,false,false,false,false] rfl rfl (take_ofW HT_.out HW_.out (by kernel_rfl)) (fun _ _ _ h=>h) (Or.inl ⟨by rfl,?_⟩) hHeld ?_ ?_
           rotate_left
           ·rintro w' ⟨s0,s1,s2,s3,s4,s5,s6,s7⟩
            go_simp
            with_reducible rfl
           rotate_left
           ·simp only [nS]
            rfl
           refine one_ (i:=12) (N:=some 24) #[true,true,true,true,true,true,true,true,true,true,true,true,true,true,false,false,false,false] rfl rfl (one_of HT_.out (by kernel_rfl)) (by decide) (fun K hK=>?_)
           refine goes_ Tryz.func57 (by kernel_rfl) rfl #[.agg #[.int .i64 ((rd_T45 l0 (ji8)).f0),.int .i64 ((rd_T45 l0 (ji8)).f1),.int .i64 ((rd_T45 l0 (ji8)).f2),.int .i64 ((rd_T45 l0 (ji8)).f3)]] (by rfl) rfl rfl (by (try simp only [List.map_toArray,List.map_cons,List.map_nil]);first|done|(simp only [hji8];rfl)|rfl|(simp only [List.length_drop,List.length_take];rfl)) ?_
           with_reducible refine (fleuronref27_pair.calls ((rd_T45 l0 (ji8)).f0) ((rd_T45 l0 (ji8)).f1) ((rd_T45 l0 (ji8)).f2) ((rd_T45 l0 (ji8)).f3) t154 _ A11.out).mono ?_
           rintro e w26 ⟨rfl,hb⟩
           refine ⟨_,rfl,?_⟩
           have n0_:=aK (blk_below (g:=gb151) (o:=.cells #[.int .i64 ((rd_T45 l0 x7_1).f0),.int .i64 ((rd_T45 l0 x7_1).f1),.int .i64 ((rd_T45 l0 x7_1).f2),.int .i64 ((rd_T45 l0 x7_1).f3)] 45 (0,0)) (by (with_reducible repeat (first|refine blk_drewN ?_ _|refine blk_drew ?_|refine blk_alloc ?_ _));exact BK151.out) hb)
           have n1_:=aK (below_step (by repeat (first|(with_reducible first|exact HB.out|apply below_alloc|apply pw_below_drewN|apply below_drew1|refine below_set ?_ GE151.out)|exact HB.out)) hb)
           clear BK151
           clear HB
           have BK151:=n0_
           have HB:=n1_
           clear n0_ n1_
           (try clear hb)
           (try clear hb2)
           (try clear hk)
           (try clear hi)
           refine hK.out _ _ ⟨(blk_cell BK151.out 0).trans rfl,(blk_cell BK151.out 1).trans rfl,(blk_cell BK151.out 2).trans rfl,(blk_cell BK151.out 3).trans rfl,((HB.out.cell (World.block_lt_of_cell? w _ hw153_0)).trans hw153_0),((HB.out.cell (World.block_lt_of_cell? w _ hw153_1)).trans hw153_1),((HB.out.cell (World.block_lt_of_cell? w _ hw153_2)).trans hw153_2),((HB.out.cell (World.block_lt_of_cell? w _ hw153_3)).trans hw153_3)⟩ (fun hHeld=>?_)
           clear hK K
           refine norm_ (a':=?_) ?_ ?_;rotate_left;show Act.put _ (some 24) _=_;simp only [nS];rfl
           refine one_ (i:=14) (N:=some 26) #[true,true,true,true,true,true,true,true,true,true,true,true,true,true,true,false,false,false] rfl rfl (one_of HT_.out (by kernel_rfl)) (by decide) (fun K hK=>?_)
           refine goes_ Tryz.func57 (by kernel_rfl) rfl #[.agg #[.int .i64 ((rd_T45 l0 x7_1).f0),.int .i64 ((rd_T45 l0 x7_1).f1),.int .i64 ((rd_T45 l0 x7_1).f2),.int .i64 ((rd_T45 l0 x7_1).f3)]] (by rfl) rfl rfl (by (try simp only [List.map_toArray,List.map_cons,List.map_nil]);first|done|rfl|(simp only [List.length_drop,List.length_take];rfl)) ?_
           with_reducible refine (fleuronref27_pair.calls ((rd_T45 l0 x7_1).f0) ((rd_T45 l0 x7_1).f1) ((rd_T45 l0 x7_1).f2) ((rd_T45 l0 x7_1).f3) t155 _ A12.out).mono ?_
           rintro e w27 ⟨rfl,hb⟩
           refine ⟨_,rfl,?_⟩
           have n0_:=aK (blk_below (g:=gb151) (o:=.cells #[.int .i64 ((rd_T45 l0 x7_1).f0),.int .i64 ((rd_T45 l0 x7_1).f1),.int .i64 ((rd_T45 l0 x7_1).f2),.int .i64 ((rd_T45 l0 x7_1).f3)] 45 (0,0)) (by (with_reducible repeat (first|refine blk_drewN ?_ _|refine blk_drew ?_|refine blk_alloc ?_ _));exact BK151.out) hb)
           have n1_:=aK (below_step (by repeat (first|(with_reducible first|exact HB.out|apply below_alloc|apply pw_below_drewN|apply below_drew1|refine below_set ?_ GE151.out)|exact HB.out)) hb)
           clear BK151
           clear HB
           have BK151:=n0_
           have HB:=n1_
           clear n0_ n1_
           (try clear hb)
           (try clear hb2)
           (try clear hk)
           (try clear hi)
           refine hK.out _ _ ⟨(blk_cell BK151.out 0).trans rfl,(blk_cell BK151.out 1).trans rfl,(blk_cell BK151.out 2).trans rfl,(blk_cell BK151.out 3).trans rfl,((HB.out.cell (World.block_lt_of_cell? w _ hw153_0)).trans hw153_0),((HB.out.cell (World.block_lt_of_cell? w _ hw153_1)).trans hw153_1),((HB.out.cell (World.block_lt_of_cell? w _ hw153_2)).trans hw153_2),((HB.out.cell (World.block_lt_of_cell? w _ hw153_3)).trans hw153_3)⟩ (fun hHeld=>?_)
           clear hK K
           refine norm_ (a':=?_) ?_ ?_;rotate_left;show Act.put _ (some 26) _=_;simp only [nS];rfl
           refine pure_ (i:=15) (N:=some 27) (v:=?_) (a':=?_) #[true,true,true,true,true,true,true,true,true,true,true,true,true,true,true,true,false,false] rfl rfl (any_of HT_.out (by kernel_rfl)) (fun _ _ _ h=>h) (Or.inl ⟨by rfl,?_⟩) ?_ ?_
           rotate_left
           ·intro w'
            go_simp
            with_reducible rfl
           rotate_left
           ·simp only [nS]
            rfl
           refine pure_ (i:=16) (N:=some 28) (v:=?_) (a':=?_) #[true,true,true,true,true,true,true,true,true,true,true,true,true,true,true,true,true,false] rfl rfl (any_of HT_.out (by kernel_rfl)) (fun _ _ _ h=>h) (Or.inl ⟨by rfl,?_⟩) ?_ ?_
           rotate_left
           ·intro w'
            go_simp
            with_reducible rfl
           rotate_left
           ·simp only [nS]
            rfl
           refine pure_ (i:=17) (N:=some 29) (v:=?_) (a':=?_) #[true,true,true,true,true,true,true,true,true,true,true,true,true,true,true,true,true,true] rfl rfl (any_of HT_.out (by kernel_rfl)) (fun _ _ _ h=>h) (Or.inl ⟨by rfl,?_⟩) ?_ ?_
           rotate_left
           ·intro w'
            go_simp
            with_reducible rfl
           rotate_left
           ·simp only [nS]
            rfl
           refine done_ (done_of HT_.out (by kernel_rfl)) ?_
           try go_wp2
           go_roundg k1
           case measure=>have:=HK1.out;omega
           case rel=>exact ⟨(wrap64 (x7_1+1)),(by first|rfl|(simp;done)|(simp [*];done)),H',⟨by have:=HK1.out;omega⟩,⟨by repeat (first|(with_reducible first|exact HB.out|apply below_alloc|apply pw_below_drewN|apply below_drew1|refine below_set ?_ GE151.out)|exact HB.out)⟩⟩
         ·rw [if_neg c10] at H
          exact absurd H (by simp)
        ·rw [if_neg c9] at H
         exact absurd H (by simp)
       ·rw [if_neg c7] at H
        have c7b0:decide (0<x7_1)=false:=decide_eq_false c7
        clear c7
        have H':=aK H
        clear H
        have p150:0≤(x7_1:Int):=of_decide_eq_true (by first|(with_reducible assumption)|assumption)
        have q150:x7_1<(l0.length:Int):=of_decide_eq_true (by first|(with_reducible assumption)|assumption)
        obtain ⟨ad150,e150,hx150_0,hx150_1,hx150_2,hx150_3⟩:=at_T45 HR0.out x7_1 p150 q150
        cases e150
        replace hx150_0:=(HB.out.cell (World.block_lt_of_cell? w _ hx150_0)).trans hx150_0
        replace hx150_1:=(HB.out.cell (World.block_lt_of_cell? w _ hx150_1)).trans hx150_1
        replace hx150_2:=(HB.out.cell (World.block_lt_of_cell? w _ hx150_2)).trans hx150_2
        replace hx150_3:=(HB.out.cell (World.block_lt_of_cell? w _ hx150_3)).trans hx150_3
        replace p150:=eq_true p150
        replace q150:=eq_true q150
        try go_wp2_with (first|((with_reducible refine gate_dst (N:=4) rfl ?_);refine box_event ?hg (N:=4) ?hd (cs:=#[.int .i64 0,.int .i64 0,.int .i64 0,.int .i64 0]) (t:=45) ?hr ?_;(case hd=>rfl);(case hg=>rfl);(case hr=>first|(go_simp;done)|(go_simp;rfl));intro gb151 hg w28 hbox hb;have n0_:=aK (below_step (by repeat (first|(with_reducible first|exact HB.out|apply below_alloc|apply pw_below_drewN|apply below_drew1)|exact HB.out)) hb);have n1_:=aK (hbox);have n2_:=aK ((by rw [hg];exact (below_size (by repeat (first|(with_reducible first|exact HB.out|apply below_alloc|apply pw_below_drewN|apply below_drew1)|exact HB.out))):w.heap.size≤gb151));have n3_:=n2_;clear HB;have HB:=n0_;have BK151:=n1_;have GW151:=n2_;have GE151:=n3_;clear n0_ n1_ n2_ n3_;clear hb hbox hg;have hcz29_0:w28.cell? ⟨gb151,0,none⟩=some (.int .i64 0):=(blk_cell BK151.out 0).trans rfl;have hcz29_1:w28.cell? ⟨gb151,1,none⟩=some (.int .i64 0):=(blk_cell BK151.out 1).trans rfl;have hcz29_2:w28.cell? ⟨gb151,2,none⟩=some (.int .i64 0):=(blk_cell BK151.out 2).trans rfl;have hcz29_3:w28.cell? ⟨gb151,3,none⟩=some (.int .i64 0):=(blk_cell BK151.out 3).trans rfl;have hfz29_0:=blk_frozen BK151.out 0;have hfz29_1:=blk_frozen BK151.out 1;have hfz29_2:=blk_frozen BK151.out 2;have hfz29_3:=blk_frozen BK151.out 3))
        have n0_:Aside0 (((((w28.setCell ⟨gb151,0,none⟩ (.int .i64 ((rd_T45 l0 x7_1).f0))).setCell ⟨gb151,1,none⟩ (.int .i64 ((rd_T45 l0 x7_1).f1))).setCell ⟨gb151,2,none⟩ (.int .i64 ((rd_T45 l0 x7_1).f2))).setCell ⟨gb151,3,none⟩ (.int .i64 ((rd_T45 l0 x7_1).f3))).heap[gb151]?=some (.cells #[.int .i64 ((rd_T45 l0 x7_1).f0),.int .i64 ((rd_T45 l0 x7_1).f1),.int .i64 ((rd_T45 l0 x7_1).f2),.int .i64 ((rd_T45 l0 x7_1).f3)] 45 (0,0))):=⟨by (with_reducible repeat (first|refine blk_drewN ?_ _|refine blk_drew ?_|refine blk_alloc ?_ _));refine blk_put (cs:=#[.int .i64 ((rd_T45 l0 x7_1).f0),.int .i64 ((rd_T45 l0 x7_1).f1),.int .i64 ((rd_T45 l0 x7_1).f2),.int .i64 0]) ?_ 3 _ rfl;(with_reducible repeat (first|refine blk_drewN ?_ _|refine blk_drew ?_|refine blk_alloc ?_ _));refine blk_put (cs:=#[.int .i64 ((rd_T45 l0 x7_1).f0),.int .i64 ((rd_T45 l0 x7_1).f1),.int .i64 0,.int .i64 0]) ?_ 2 _ rfl;(with_reducible repeat (first|refine blk_drewN ?_ _|refine blk_drew ?_|refine blk_alloc ?_ _));refine blk_put (cs:=#[.int .i64 ((rd_T45 l0 x7_1).f0),.int .i64 0,.int .i64 0,.int .i64 0]) ?_ 1 _ rfl;(with_reducible repeat (first|refine blk_drewN ?_ _|refine blk_drew ?_|refine blk_alloc ?_ _));refine blk_put (cs:=#[.int .i64 0,.int .i64 0,.int .i64 0,.int .i64 0]) ?_ 0 _ rfl;(with_reducible repeat (first|refine blk_drewN ?_ _|refine blk_drew ?_|refine blk_alloc ?_ _));exact BK151.out⟩
        have n1_:Aside0 (Below w.heap.size w ((((w28.setCell ⟨gb151,0,none⟩ (.int .i64 ((rd_T45 l0 x7_1).f0))).setCell ⟨gb151,1,none⟩ (.int .i64 ((rd_T45 l0 x7_1).f1))).setCell ⟨gb151,2,none⟩ (.int .i64 ((rd_T45 l0 x7_1).f2))).setCell ⟨gb151,3,none⟩ (.int .i64 ((rd_T45 l0 x7_1).f3)))):=⟨by repeat (first|(with_reducible first|exact HB.out|apply below_alloc|apply pw_below_drewN|apply below_drew1|refine below_set ?_ GE151.out)|exact HB.out)⟩
        (try clear BK151)
        (try clear HB)
        generalize ((((w28.setCell ⟨gb151,0,none⟩ (.int .i64 ((rd_T45 l0 x7_1).f0))).setCell ⟨gb151,1,none⟩ (.int .i64 ((rd_T45 l0 x7_1).f1))).setCell ⟨gb151,2,none⟩ (.int .i64 ((rd_T45 l0 x7_1).f2))).setCell ⟨gb151,3,none⟩ (.int .i64 ((rd_T45 l0 x7_1).f3)))=w30 at n0_ n1_ ⊢
        have BK151:=n0_
        have HB:=n1_
        clear n0_ n1_
        have n0_:=aK (blk_drew BK151.out)
        have n1_:=aK (below_drew1 HB.out)
        clear BK151
        clear HB
        have BK151:=n0_
        have HB:=n1_
        clear n0_ n1_
        refine start_ (n:=18) (S:=fun w'=>w'.cell? ⟨gb151,0,none⟩=some (.int .i64 ((rd_T45 l0 x7_1).f0))∧w'.cell? ⟨gb151,1,none⟩=some (.int .i64 ((rd_T45 l0 x7_1).f1))∧w'.cell? ⟨gb151,2,none⟩=some (.int .i64 ((rd_T45 l0 x7_1).f2))∧w'.cell? ⟨gb151,3,none⟩=some (.int .i64 ((rd_T45 l0 x7_1).f3))) (ds:=[]) #[false,false,false,false,false,false,false,false,false,false,false,false,false,false,false,false,false,false] (by kernel_rfl) rfl rfl ⟨(blk_cell BK151.out 0).trans rfl,(blk_cell BK151.out 1).trans rfl,(blk_cell BK151.out 2).trans rfl,(blk_cell BK151.out 3).trans rfl⟩ (fun hHeld=>?_);refine with_tabW fleuronref27_Rules.tab4 fleuronref27_Rules.bits4 (fun HT_ HW_=>?_)
        generalize w30.drew=w31 at BK151 HB hHeld ⊢
        refine take_ (i:=0) (N:=some 12) (v:=?_) (a':=?_) #[true,false,false,false,false,false,false,false,false,false,false,false,false,false,false,false,false,false] rfl rfl (take_ofW HT_.out HW_.out (by kernel_rfl)) (fun _ _ _ h=>h) (Or.inl ⟨by rfl,?_⟩) hHeld ?_ ?_
        rotate_left
        ·rintro w' ⟨s0,s1,s2,s3⟩
         go_simp
         with_reducible rfl
        rotate_left
        ·simp only [nS]
         rfl
        refine one_ (i:=1) (N:=some 13) #[true,true,false,false,false,false,false,false,false,false,false,false,false,false,false,false,false,false] rfl rfl (one_of HT_.out (by kernel_rfl)) (by decide) (fun K hK=>?_)
        refine goes_ Tryz.func56 (by kernel_rfl) rfl #[.agg #[.int .i64 ((rd_T45 l0 x7_1).f0),.int .i64 ((rd_T45 l0 x7_1).f1),.int .i64 ((rd_T45 l0 x7_1).f2),.int .i64 ((rd_T45 l0 x7_1).f3)]] (by rfl) rfl rfl (by (try simp only [List.map_toArray,List.map_cons,List.map_nil]);first|done|rfl|(simp only [List.length_drop,List.length_take];rfl)) ?_
        with_reducible refine (fleuronref27_rule.calls k1 ((rd_T45 l0 x7_1).f0) ((rd_T45 l0 x7_1).f1) ((rd_T45 l0 x7_1).f2) ((rd_T45 l0 x7_1).f3) true _ A5.out).mono ?_
        rintro e w32 ⟨rfl,hb⟩
        refine ⟨_,rfl,?_⟩
        have n0_:=aK (blk_below (g:=gb151) (o:=.cells #[.int .i64 ((rd_T45 l0 x7_1).f0),.int .i64 ((rd_T45 l0 x7_1).f1),.int .i64 ((rd_T45 l0 x7_1).f2),.int .i64 ((rd_T45 l0 x7_1).f3)] 45 (0,0)) (by (with_reducible repeat (first|refine blk_drewN ?_ _|refine blk_drew ?_|refine blk_alloc ?_ _));exact BK151.out) hb)
        have n1_:=aK (below_step (by repeat (first|(with_reducible first|exact HB.out|apply below_alloc|apply pw_below_drewN|apply below_drew1|refine below_set ?_ GE151.out)|exact HB.out)) hb)
        clear BK151
        clear HB
        have BK151:=n0_
        have HB:=n1_
        clear n0_ n1_
        (try clear hb)
        (try clear hb2)
        (try clear hk)
        (try clear hi)
        refine hK.out _ _ ⟨(blk_cell BK151.out 0).trans rfl,(blk_cell BK151.out 1).trans rfl,(blk_cell BK151.out 2).trans rfl,(blk_cell BK151.out 3).trans rfl⟩ (fun hHeld=>?_)
        clear hK K
        refine norm_ (a':=?_) ?_ ?_;rotate_left;show Act.put _ (some 13) _=_;simp only [nS];rfl
        refine pure_ (i:=2) (N:=some 14) (v:=?_) (a':=?_) #[true,true,true,false,false,false,false,false,false,false,false,false,false,false,false,false,false,false] rfl rfl (any_of HT_.out (by kernel_rfl)) (fun _ _ _ h=>h) (Or.inl ⟨by rfl,?_⟩) ?_ ?_
        rotate_left
        ·intro w'
         go_simp
         with_reducible rfl
        rotate_left
        ·simp only [nS]
         rfl
        refine pure_ (i:=3) (N:=some 15) (v:=?_) (a':=?_) #[true,true,true,true,false,false,false,false,false,false,false,false,false,false,false,false,false,false] rfl rfl (any_of HT_.out (by kernel_rfl)) (fun _ _ _ h=>h) (Or.inl ⟨by rfl,?_⟩) ?_ ?_
        rotate_left
        ·intro w'
         go_simp
         with_reducible rfl
        rotate_left
        ·simp only [nS]
         rfl
        refine pure_ (i:=4) (N:=some 16) (v:=?_) (a':=?_) #[true,true,true,true,true,false,false,false,false,false,false,false,false,false,false,false,false,false] rfl rfl (any_of HT_.out (by kernel_rfl)) (fun _ _ _ h=>h) (Or.inl ⟨by rfl,?_⟩) ?_ ?_
        rotate_left
        ·intro w'
         go_simp
         with_reducible rfl
        rotate_left
        ·simp only [nS]
         rfl
        refine pure_ (i:=5) (N:=some 17) (v:=?_) (a':=?_) #[true,true,true,true,true,true,false,false,false,false,false,false,false,false,false,false,false,false] rfl rfl (any_of HT_.out (by kernel_rfl)) (fun _ _ _ h=>h) (Or.inl ⟨by rfl,?_⟩) ?_ ?_
        rotate_left
        ·intro w'
         go_simp
         with_reducible rfl
        rotate_left
        ·simp only [nS]
         rfl
        refine pure_ (i:=6) (N:=some 18) (v:=?_) (a':=?_) #[true,true,true,true,true,true,true,false,false,false,false,false,false,false,false,false,false,false] rfl rfl (any_of HT_.out (by kernel_rfl)) (fun _ _ _ h=>h) (Or.inl ⟨by rfl,?_⟩) ?_ ?_
        rotate_left
        ·intro w'
         go_simp
         with_reducible rfl
        rotate_left
        ·simp only [nS]
         rfl
        refine pure_ (i:=7) (N:=some 19) (v:=undef) (a':=?_) #[true,true,true,true,true,true,true,true,false,false,false,false,false,false,false,false,false,false] rfl rfl (any_of HT_.out (by kernel_rfl)) (fun _ _ _ h=>h) (Or.inr ⟨by rfl,rfl⟩) ?_ ?_
        rotate_left
        ·simp only [nS]
         rfl
        refine pure_ (i:=8) (N:=some 20) (v:=undef) (a':=?_) #[true,true,true,true,true,true,true,true,true,false,false,false,false,false,false,false,false,false] rfl rfl (any_of HT_.out (by kernel_rfl)) (fun _ _ _ h=>h) (Or.inr ⟨by rfl,rfl⟩) ?_ ?_
        rotate_left
        ·simp only [nS]
         rfl
        refine pure_ (i:=9) (N:=some 21) (v:=undef) (a':=?_) #[true,true,true,true,true,true,true,true,true,true,false,false,false,false,false,false,false,false] rfl rfl (any_of HT_.out (by kernel_rfl)) (fun _ _ _ h=>h) (Or.inr ⟨by rfl,rfl⟩) ?_ ?_
        rotate_left
        ·simp only [nS]
         rfl
        refine pure_ (i:=10) (N:=some 22) (v:=undef) (a':=?_) #[true,true,true,true,true,true,true,true,true,true,true,false,false,false,false,false,false,false] rfl rfl (any_of HT_.out (by kernel_rfl)) (fun _ _ _ h=>h) (Or.inr ⟨by rfl,rfl⟩) ?_ ?_
        rotate_left
        ·simp only [nS]
         rfl
        refine pure_ (i:=11) (N:=some 23) (v:=undef) (a':=?_) #[true,true,true,true,true,true,true,true,true,true,true,true,false,false,false,false,false,false] rfl rfl (any_of HT_.out (by kernel_rfl)) (fun _ _ _ h=>h) (Or.inr ⟨by rfl,rfl⟩) ?_ ?_
        rotate_left
        ·simp only [nS]
         rfl
        refine pure_ (i:=12) (N:=some 24) (v:=undef) (a':=?_) #[true,true,true,true,true,true,true,true,true,true,true,true,true,false,false,false,false,false] rfl rfl (any_of HT_.out (by kernel_rfl)) (fun _ _ _ h=>h) (Or.inr ⟨by rfl,rfl⟩) ?_ ?_
        rotate_left
        ·simp only [nS]
         rfl
        refine pure_ (i:=13) (N:=some 25) (v:=undef) (a':=?_) #[true,true,true,true,true,true,true,true,true,true,true,true,true,true,false,false,false,false] rfl rfl (any_of HT_.out (by kernel_rfl)) (fun _ _ _ h=>h) (Or.inr ⟨by rfl,rfl⟩) ?_ ?_
        rotate_left
        ·simp only [nS]
         rfl
        refine pure_ (i:=14) (N:=some 26) (v:=undef) (a':=?_) #[true,true,true,true,true,true,true,true,true,true,true,true,true,true,true,false,false,false] rfl rfl (any_of HT_.out (by kernel_rfl)) (fun _ _ _ h=>h) (Or.inr ⟨by rfl,rfl⟩) ?_ ?_
        rotate_left
        ·simp only [nS]
         rfl
        refine pure_ (i:=15) (N:=some 27) (v:=undef) (a':=?_) #[true,true,true,true,true,true,true,true,true,true,true,true,true,true,true,true,false,false] rfl rfl (any_of HT_.out (by kernel_rfl)) (fun _ _ _ h=>h) (Or.inr ⟨by rfl,rfl⟩) ?_ ?_
        rotate_left
        ·simp only [nS]
         rfl
        refine pure_ (i:=16) (N:=some 28) (v:=?_) (a':=?_) #[true,true,true,true,true,true,true,true,true,true,true,true,true,true,true,true,true,false] rfl rfl (any_of HT_.out (by kernel_rfl)) (fun _ _ _ h=>h) (Or.inl ⟨by rfl,?_⟩) ?_ ?_
        rotate_left
        ·intro w'
         go_simp
         with_reducible rfl
        rotate_left
        ·simp only [nS]
         rfl
        refine pure_ (i:=17) (N:=some 29) (v:=?_) (a':=?_) #[true,true,true,true,true,true,true,true,true,true,true,true,true,true,true,true,true,true] rfl rfl (any_of HT_.out (by kernel_rfl)) (fun _ _ _ h=>h) (Or.inl ⟨by rfl,?_⟩) ?_ ?_
        rotate_left
        ·intro w'
         go_simp
         with_reducible rfl
        rotate_left
        ·simp only [nS]
         rfl
        refine done_ (done_of HT_.out (by kernel_rfl)) ?_
        try go_wp2
        go_roundg k1
        case measure=>have:=HK1.out;omega
        case rel=>exact ⟨(wrap64 (x7_1+1)),(by first|rfl|(simp;done)|(simp [*];done)),H',⟨by have:=HK1.out;omega⟩,⟨by repeat (first|(with_reducible first|exact HB.out|apply below_alloc|apply pw_below_drewN|apply below_drew1|refine below_set ?_ GE151.out)|exact HB.out)⟩⟩
      ·replace c6:=Bool.eq_false_iff.mpr c6
       subst c6
       have H1:(some false)=some r:=by rw [if_neg (show ¬ (false=true) by decide)] at H;exact H
       clear H
       have H:=H1
       clear H1
       obtain rfl:=Option.some.inj H
       have p150:0≤(x7_1:Int):=of_decide_eq_true (by first|(with_reducible assumption)|assumption)
       have q150:x7_1<(l0.length:Int):=of_decide_eq_true (by first|(with_reducible assumption)|assumption)
       obtain ⟨ad150,e150,hx150_0,hx150_1,hx150_2,hx150_3⟩:=at_T45 HR0.out x7_1 p150 q150
       cases e150
       replace hx150_0:=(HB.out.cell (World.block_lt_of_cell? w _ hx150_0)).trans hx150_0
       replace hx150_1:=(HB.out.cell (World.block_lt_of_cell? w _ hx150_1)).trans hx150_1
       replace hx150_2:=(HB.out.cell (World.block_lt_of_cell? w _ hx150_2)).trans hx150_2
       replace hx150_3:=(HB.out.cell (World.block_lt_of_cell? w _ hx150_3)).trans hx150_3
       replace p150:=eq_true p150
       replace q150:=eq_true q150
       try go_wp2_with (first|((with_reducible refine gate_dst (N:=4) rfl ?_);refine box_event ?hg (N:=4) ?hd (cs:=#[.int .i64 0,.int .i64 0,.int .i64 0,.int .i64 0]) (t:=45) ?hr ?_;(case hd=>rfl);(case hg=>rfl);(case hr=>first|(go_simp;done)|(go_simp;rfl));intro gb151 hg w33 hbox hb;have n0_:=aK (below_step (by repeat (first|(with_reducible first|exact HB.out|apply below_alloc|apply pw_below_drewN|apply below_drew1)|exact HB.out)) hb);have n1_:=aK (hbox);have n2_:=aK ((by rw [hg];exact (below_size (by repeat (first|(with_reducible first|exact HB.out|apply below_alloc|apply pw_below_drewN|apply below_drew1)|exact HB.out))):w.heap.size≤gb151));have n3_:=n2_;clear HB;have HB:=n0_;have BK151:=n1_;have GW151:=n2_;have GE151:=n3_;clear n0_ n1_ n2_ n3_;clear hb hbox hg;have hcz34_0:w33.cell? ⟨gb151,0,none⟩=some (.int .i64 0):=(blk_cell BK151.out 0).trans rfl;have hcz34_1:w33.cell? ⟨gb151,1,none⟩=some (.int .i64 0):=(blk_cell BK151.out 1).trans rfl;have hcz34_2:w33.cell? ⟨gb151,2,none⟩=some (.int .i64 0):=(blk_cell BK151.out 2).trans rfl;have hcz34_3:w33.cell? ⟨gb151,3,none⟩=some (.int .i64 0):=(blk_cell BK151.out 3).trans rfl;have hfz34_0:=blk_frozen BK151.out 0;have hfz34_1:=blk_frozen BK151.out 1;have hfz34_2:=blk_frozen BK151.out 2;have hfz34_3:=blk_frozen BK151.out 3))
       have n0_:Aside0 (((((w33.setCell ⟨gb151,0,none⟩ (.int .i64 ((rd_T45 l0 x7_1).f0))).setCell ⟨gb151,1,none⟩ (.int .i64 ((rd_T45 l0 x7_1).f1))).setCell ⟨gb151,2,none⟩ (.int .i64 ((rd_T45 l0 x7_1).f2))).setCell ⟨gb151,3,none⟩ (.int .i64 ((rd_T45 l0 x7_1).f3))).heap[gb151]?=some (.cells #[.int .i64 ((rd_T45 l0 x7_1).f0),.int .i64 ((rd_T45 l0 x7_1).f1),.int .i64 ((rd_T45 l0 x7_1).f2),.int .i64 ((rd_T45 l0 x7_1).f3)] 45 (0,0))):=⟨by (with_reducible repeat (first|refine blk_drewN ?_ _|refine blk_drew ?_|refine blk_alloc ?_ _));refine blk_put (cs:=#[.int .i64 ((rd_T45 l0 x7_1).f0),.int .i64 ((rd_T45 l0 x7_1).f1),.int .i64 ((rd_T45 l0 x7_1).f2),.int .i64 0]) ?_ 3 _ rfl;(with_reducible repeat (first|refine blk_drewN ?_ _|refine blk_drew ?_|refine blk_alloc ?_ _));refine blk_put (cs:=#[.int .i64 ((rd_T45 l0 x7_1).f0),.int .i64 ((rd_T45 l0 x7_1).f1),.int .i64 0,.int .i64 0]) ?_ 2 _ rfl;(with_reducible repeat (first|refine blk_drewN ?_ _|refine blk_drew ?_|refine blk_alloc ?_ _));refine blk_put (cs:=#[.int .i64 ((rd_T45 l0 x7_1).f0),.int .i64 0,.int .i64 0,.int .i64 0]) ?_ 1 _ rfl;(with_reducible repeat (first|refine blk_drewN ?_ _|refine blk_drew ?_|refine blk_alloc ?_ _));refine blk_put (cs:=#[.int .i64 0,.int .i64 0,.int .i64 0,.int .i64 0]) ?_ 0 _ rfl;(with_reducible repeat (first|refine blk_drewN ?_ _|refine blk_drew ?_|refine blk_alloc ?_ _));exact BK151.out⟩
       have n1_:Aside0 (Below w.heap.size w ((((w33.setCell ⟨gb151,0,none⟩ (.int .i64 ((rd_T45 l0 x7_1).f0))).setCell ⟨gb151,1,none⟩ (.int .i64 ((rd_T45 l0 x7_1).f1))).setCell ⟨gb151,2,none⟩ (.int .i64 ((rd_T45 l0 x7_1).f2))).setCell ⟨gb151,3,none⟩ (.int .i64 ((rd_T45 l0 x7_1).f3)))):=⟨by repeat (first|(with_reducible first|exact HB.out|apply below_alloc|apply pw_below_drewN|apply below_drew1|refine below_set ?_ GE151.out)|exact HB.out)⟩
       (try clear BK151)
       (try clear HB)
       generalize ((((w33.setCell ⟨gb151,0,none⟩ (.int .i64 ((rd_T45 l0 x7_1).f0))).setCell ⟨gb151,1,none⟩ (.int .i64 ((rd_T45 l0 x7_1).f1))).setCell ⟨gb151,2,none⟩ (.int .i64 ((rd_T45 l0 x7_1).f2))).setCell ⟨gb151,3,none⟩ (.int .i64 ((rd_T45 l0 x7_1).f3)))=w35 at n0_ n1_ ⊢
       have BK151:=n0_
       have HB:=n1_
       clear n0_ n1_
       have n0_:=aK (blk_drew BK151.out)
       have n1_:=aK (below_drew1 HB.out)
       clear BK151
       clear HB
       have BK151:=n0_
       have HB:=n1_
       clear n0_ n1_
       refine start_ (n:=18) (S:=fun w'=>w'.cell? ⟨gb151,0,none⟩=some (.int .i64 ((rd_T45 l0 x7_1).f0))∧w'.cell? ⟨gb151,1,none⟩=some (.int .i64 ((rd_T45 l0 x7_1).f1))∧w'.cell? ⟨gb151,2,none⟩=some (.int .i64 ((rd_T45 l0 x7_1).f2))∧w'.cell? ⟨gb151,3,none⟩=some (.int .i64 ((rd_T45 l0 x7_1).f3))) (ds:=[]) #[false,false,false,false,false,false,false,false,false,false,false,false,false,false,false,false,false,false] (by kernel_rfl) rfl rfl ⟨(blk_cell BK151.out 0).trans rfl,(blk_cell BK151.out 1).trans rfl,(blk_cell BK151.out 2).trans rfl,(blk_cell BK151.out 3).trans rfl⟩ (fun hHeld=>?_);refine with_tabW fleuronref27_Rules.tab4 fleuronref27_Rules.bits4 (fun HT_ HW_=>?_)
       generalize w35.drew=w36 at BK151 HB hHeld ⊢
       refine take_ (i:=0) (N:=some 12) (v:=?_) (a':=?_) #[true,false,false,false,false,false,false,false,false,false,false,false,false,false,false,false,false,false] rfl rfl (take_ofW HT_.out HW_.out (by kernel_rfl)) (fun _ _ _ h=>h) (Or.inl ⟨by rfl,?_⟩) hHeld ?_ ?_
       rotate_left
       ·rintro w' ⟨s0,s1,s2,s3⟩
        go_simp
        with_reducible rfl
       rotate_left
       ·simp only [nS]
        rfl
       refine one_ (i:=1) (N:=some 13) #[true,true,false,false,false,false,false,false,false,false,false,false,false,false,false,false,false,false] rfl rfl (one_of HT_.out (by kernel_rfl)) (by decide) (fun K hK=>?_)
       refine goes_ Tryz.func56 (by kernel_rfl) rfl #[.agg #[.int .i64 ((rd_T45 l0 x7_1).f0),.int .i64 ((rd_T45 l0 x7_1).f1),.int .i64 ((rd_T45 l0 x7_1).f2),.int .i64 ((rd_T45 l0 x7_1).f3)]] (by rfl) rfl rfl (by (try simp only [List.map_toArray,List.map_cons,List.map_nil]);first|done|rfl|(simp only [List.length_drop,List.length_take];rfl)) ?_
       with_reducible refine (fleuronref27_rule.calls k1 ((rd_T45 l0 x7_1).f0) ((rd_T45 l0 x7_1).f1) ((rd_T45 l0 x7_1).f2) ((rd_T45 l0 x7_1).f3) false _ A5.out).mono ?_
       rintro e w37 ⟨rfl,hb⟩
       refine ⟨_,rfl,?_⟩
       have n0_:=aK (blk_below (g:=gb151) (o:=.cells #[.int .i64 ((rd_T45 l0 x7_1).f0),.int .i64 ((rd_T45 l0 x7_1).f1),.int .i64 ((rd_T45 l0 x7_1).f2),.int .i64 ((rd_T45 l0 x7_1).f3)] 45 (0,0)) (by (with_reducible repeat (first|refine blk_drewN ?_ _|refine blk_drew ?_|refine blk_alloc ?_ _));exact BK151.out) hb)
       have n1_:=aK (below_step (by repeat (first|(with_reducible first|exact HB.out|apply below_alloc|apply pw_below_drewN|apply below_drew1|refine below_set ?_ GE151.out)|exact HB.out)) hb)
       clear BK151
       clear HB
       have BK151:=n0_
       have HB:=n1_
       clear n0_ n1_
       (try clear hb)
       (try clear hb2)
       (try clear hk)
       (try clear hi)
       refine hK.out _ _ ⟨(blk_cell BK151.out 0).trans rfl,(blk_cell BK151.out 1).trans rfl,(blk_cell BK151.out 2).trans rfl,(blk_cell BK151.out 3).trans rfl⟩ (fun hHeld=>?_)
       clear hK K
       refine norm_ (a':=?_) ?_ ?_;rotate_left;show Act.put _ (some 13) _=_;simp only [nS];rfl
       refine pure_ (i:=2) (N:=some 14) (v:=?_) (a':=?_) #[true,true,true,false,false,false,false,false,false,false,false,false,false,false,false,false,false,false] rfl rfl (any_of HT_.out (by kernel_rfl)) (fun _ _ _ h=>h) (Or.inl ⟨by rfl,?_⟩) ?_ ?_
       rotate_left
       ·intro w'
        go_simp
        with_reducible rfl
       rotate_left
       ·simp only [nS]
        rfl
       refine pure_ (i:=3) (N:=some 15) (v:=?_) (a':=?_) #[true,true,true,true,false,false,false,false,false,false,false,false,false,false,false,false,false,false] rfl rfl (any_of HT_.out (by kernel_rfl)) (fun _ _ _ h=>h) (Or.inl ⟨by rfl,?_⟩) ?_ ?_
       rotate_left
       ·intro w'
        go_simp
        with_reducible rfl
       rotate_left
       ·simp only [nS]
        rfl
       refine pure_ (i:=4) (N:=some 16) (v:=undef) (a':=?_) #[true,true,true,true,true,false,false,false,false,false,false,false,false,false,false,false,false,false] rfl rfl (any_of HT_.out (by kernel_rfl)) (fun _ _ _ h=>h) (Or.inr ⟨by rfl,rfl⟩) ?_ ?_
       rotate_left
       ·simp only [nS]
        rfl
       refine pure_ (i:=5) (N:=some 17) (v:=undef) (a':=?_) #[true,true,true,true,true,true,false,false,false,false,false,false,false,false,false,false,false,false] rfl rfl (any_of HT_.out (by kernel_rfl)) (fun _ _ _ h=>h) (Or.inr ⟨by rfl,rfl⟩) ?_ ?_
       rotate_left
       ·simp only [nS]
        rfl
       refine pure_ (i:=6) (N:=some 18) (v:=undef) (a':=?_) #[true,true,true,true,true,true,true,false,false,false,false,false,false,false,false,false,false,false] rfl rfl (any_of HT_.out (by kernel_rfl)) (fun _ _ _ h=>h) (Or.inr ⟨by rfl,rfl⟩) ?_ ?_
       rotate_left
       ·simp only [nS]
        rfl
       refine pure_ (i:=7) (N:=some 19) (v:=undef) (a':=?_) #[true,true,true,true,true,true,true,true,false,false,false,false,false,false,false,false,false,false] rfl rfl (any_of HT_.out (by kernel_rfl)) (fun _ _ _ h=>h) (Or.inr ⟨by rfl,rfl⟩) ?_ ?_
       rotate_left
       ·simp only [nS]
        rfl
       refine pure_ (i:=8) (N:=some 20) (v:=undef) (a':=?_) #[true,true,true,true,true,true,true,true,true,false,false,false,false,false,false,false,false,false] rfl rfl (any_of HT_.out (by kernel_rfl)) (fun _ _ _ h=>h) (Or.inr ⟨by rfl,rfl⟩) ?_ ?_
       rotate_left
       ·simp only [nS]
        rfl
       refine pure_ (i:=9) (N:=some 21) (v:=undef) (a':=?_) #[true,true,true,true,true,true,true,true,true,true,false,false,false,false,false,false,false,false] rfl rfl (any_of HT_.out (by kernel_rfl)) (fun _ _ _ h=>h) (Or.inr ⟨by rfl,rfl⟩) ?_ ?_
       rotate_left
       ·simp only [nS]
        rfl
       refine pure_ (i:=10) (N:=some 22) (v:=undef) (a':=?_) #[true,true,true,true,true,true,true,true,true,true,true,false,false,false,false,false,false,false] rfl rfl (any_of HT_.out (by kernel_rfl)) (fun _ _ _ h=>h) (Or.inr ⟨by rfl,rfl⟩) ?_ ?_
       rotate_left
       ·simp only [nS]
        rfl
       refine pure_ (i:=11) (N:=some 23) (v:=undef) (a':=?_) #[true,true,true,true,true,true,true,true,true,true,true,true,false,false,false,false,false,false] rfl rfl (any_of HT_.out (by kernel_rfl)) (fun _ _ _ h=>h) (Or.inr ⟨by rfl,rfl⟩) ?_ ?_
       rotate_left
       ·simp only [nS]
        rfl
       refine pure_ (i:=12) (N:=some 24) (v:=undef) (a':=?_) #[true,true,true,true,true,true,true,true,true,true,true,true,true,false,false,false,false,false] rfl rfl (any_of HT_.out (by kernel_rfl)) (fun _ _ _ h=>h) (Or.inr ⟨by rfl,rfl⟩) ?_ ?_
       rotate_left
       ·simp only [nS]
        rfl
       refine pure_ (i:=13) (N:=some 25) (v:=undef) (a':=?_) #[true,true,true,true,true,true,true,true,true,true,true,true,true,true,false,false,false,false] rfl rfl (any_of HT_.out (by kernel_rfl)) (fun _ _ _ h=>h) (Or.inr ⟨by rfl,rfl⟩) ?_ ?_
       rotate_left
       ·simp only [nS]
        rfl
       refine pure_ (i:=14) (N:=some 26) (v:=undef) (a':=?_) #[true,true,true,true,true,true,true,true,true,true,true,true,true,true,true,false,false,false] rfl rfl (any_of HT_.out (by kernel_rfl)) (fun _ _ _ h=>h) (Or.inr ⟨by rfl,rfl⟩) ?_ ?_
       rotate_left
       ·simp only [nS]
        rfl
       refine pure_ (i:=15) (N:=some 27) (v:=undef) (a':=?_) #[true,true,true,true,true,true,true,true,true,true,true,true,true,true,true,true,false,false] rfl rfl (any_of HT_.out (by kernel_rfl)) (fun _ _ _ h=>h) (Or.inr ⟨by rfl,rfl⟩) ?_ ?_
       rotate_left
       ·simp only [nS]
        rfl
       refine pure_ (i:=16) (N:=some 28) (v:=undef) (a':=?_) #[true,true,true,true,true,true,true,true,true,true,true,true,true,true,true,true,true,false] rfl rfl (any_of HT_.out (by kernel_rfl)) (fun _ _ _ h=>h) (Or.inr ⟨by rfl,rfl⟩) ?_ ?_
       rotate_left
       ·simp only [nS]
        rfl
       refine pure_ (i:=17) (N:=some 29) (v:=?_) (a':=?_) #[true,true,true,true,true,true,true,true,true,true,true,true,true,true,true,true,true,true] rfl rfl (any_of HT_.out (by kernel_rfl)) (fun _ _ _ h=>h) (Or.inl ⟨by rfl,?_⟩) ?_ ?_
       rotate_left
       ·intro w'
        go_simp
        with_reducible rfl
       rotate_left
       ·simp only [nS]
        rfl
       refine done_ (done_of HT_.out (by kernel_rfl)) ?_
       try go_wp2
       go_ret
       exact ⟨by first|rfl|(simp [errW_none,errW_some] <;> rfl)|(simp [*,errW_none,errW_some] <;> rfl),by repeat (first|(with_reducible first|exact HB.out|apply below_alloc|apply pw_below_drewN|apply below_drew1|refine below_set ?_ GE151.out)|exact HB.out)⟩
     ·rw [if_neg c4] at H
      exact absurd H (by simp)
    ·rw [if_neg c3] at H
     exact absurd H (by simp)
   ·rw [if_neg c2] at H
    have c2b0:decide (x7_1<(l0.length:Int))=false:=decide_eq_false c2
    clear c2
    obtain rfl:=Option.some.inj H
    go_wp2
    go_ret
    exact ⟨by first|rfl|(simp [errW_none,errW_some] <;> rfl)|(simp [*,errW_none,errW_some] <;> rfl),by repeat (first|(with_reducible first|exact HB.out|apply below_alloc|apply pw_below_drewN|apply below_drew1)|exact HB.out)⟩
end Go.Proofs.YtoemkemmiikhlaaGreat.PF1
