import Derived.Test.YtoemkemmiikhlaaGreatPF3x0
import Derived.Test.YtoemkemmiikhlaaGreatPF3x1
set_option maxRecDepth 100000
namespace Go.Proofs.YtoemkemmiikhlaaGreat.PF3
open Go.RowKit Go.Proofs.YtoemkemmiikhlaaGreatW.PrintWords Go.Proofs.YtoemkemmiikhlaaGreatW.PrintLast Go.Proofs.YtoemkemmiikhlaaGreatW.PrintMore
attribute [local go_sem] max2_int min2_int max_two min_two max_three min_three max_four min_four
set_option linter.unusedVariables false
set_option linter.unusedSimpArgs false
set_option maxHeartbeats 2000000 in
theorem all1_callsR (g : Nat) (p : S45 → Bool) (eg : ∀ args w, (callFunc g args).run Tryz.prog w = .ok (.enter g args) w) (b : Nat) (x : S45) (W : World)
  (hp : ∀ (W:World) (x:S45),Calls Tryz.prog g #[.agg #[.int .i64 x.f0,.int .i64 x.f1,.int .i64 x.f2,.int .i64 x.f3]] W fun e w'=>e = .returned (.bool (p x))∧Below W.heap.size W w')
  (h:W.heap[b]?=some (.cells #[.func (.func g) #[] #[]] 82 (0,0))) :
  Calls Tryz.prog 93 #[.agg #[.int .i64 x.f0,.int .i64 x.f1,.int .i64 x.f2,.int .i64 x.f3],.pointer (some ⟨b,0,none⟩)] W fun e w'=>e = .returned (.bool (!p x))∧Below W.heap.size W w':=by
 have hu:=Tryz.underlying45
 have K1:=blk_alloc h (.cells #[.int .i64 x.f0,.int .i64 x.f1,.int .i64 x.f2,.int .i64 x.f3] 45)
 have K2:=blk_new W (.cells #[.int .i64 x.f0,.int .i64 x.f1,.int .i64 x.f2,.int .i64 x.f3] 45)
 have p0:=(blk_cell K1 0).trans rfl
 have p1:=(blk_cell K2 0).trans rfl
 have p2:=(blk_cell K2 1).trans rfl
 have p3:=(blk_cell K2 2).trans rfl
 have p4:=(blk_cell K2 3).trans rfl
 have HB:=aK (below_alloc (Below.refl W.heap.size W) (.cells #[.int .i64 x.f0,.int .i64 x.f1,.int .i64 x.f2,.int .i64 x.f3] 45))
 have hcall:=hp (W.alloc (.cells #[.int .i64 x.f0,.int .i64 x.f1,.int .i64 x.f2,.int .i64 x.f3] 45)) x
 clear h K1 K2 hp
 generalize p x=r at *
 go_enter Tryz.func93,Tryz.ntmps93
 go_wp2_with fail
 refine hcall.mono ?_
 clear hcall
 rintro e w' ⟨rfl,hb⟩
 go_wp2
 go_ret
 exact ⟨rfl,below_step HB.out hb⟩
set_option maxHeartbeats 2000000 in
theorem all_prsR (g : Nat) (p : S45 → Bool) (eg : ∀ args w, (callFunc g args).run Tryz.prog w = .ok (.enter g args) w) (A0 : Option Addr) (c0 : Nat) (l0 : List S45) (w : World)
  (hp : ∀ (W:World) (x:S45),Calls Tryz.prog g #[.agg #[.int .i64 x.f0,.int .i64 x.f1,.int .i64 x.f2,.int .i64 x.f3]] W fun e w'=>e = .returned (.bool (p x))∧Below W.heap.size W w')
  (hr0:Kd.C k45 w A0 l0.length l0) (hlen:l0.length≤9223372036854775807) :
  Calls Tryz.prog 51 #[.slice A0 l0.length c0,.func (.func g) #[] #[]] w fun e w'=>e = .returned (.bool (l0.all p))∧Below w.heap.size w w':=by
 have K:=aK (blk_new w (.cells #[.func (.func g) #[] #[]] 82))
 have HB:=aK (below_alloc (Below.refl w.heap.size w) (.cells #[.func (.func g) #[] #[]] 82))
 have HC:=aK (ContainsFunc_prsR 93 #[.pointer (some ⟨w.heap.size,0,none⟩)] (fun x=>!p x) (enters_own Tryz.func93 (by kernel_rfl) rfl) A0 c0 l0 (w.alloc (.cells #[.func (.func g) #[] #[]] 82)) (fun W x hbW=>(all1_callsR g p eg w.heap.size x W hp (blk_below K.out hbW)).mono (fun e w' he=>⟨he.1,below_step hbW he.2⟩)) (Kd.C_below hr0 HB.out) hlen)
 have HQ:Aside0 ((!(l0.any fun x=>!p x))=l0.all p):=⟨by rw [List.all_eq_not_any_not]⟩
 generalize l0.all p=r at *
 generalize (l0.any fun x=>!p x)=q at *
 clear hr0 hp K
 go_enter Tryz.func51,Tryz.ntmps51
 go_wp2_with fail
 refine HC.out.mono ?_
 rintro e w' ⟨rfl,hb⟩
 go_wp2
 go_ret
 exact ⟨by rw [← HQ.out];rfl,below_step HB.out hb⟩
def metric_isRule.f (a0_0:Int) (a0_1:Int) (a0_2:Int) (a0_3:Int):Option (Bool):=(metric_isCode.f a0_3).bind fun t109=>(if a0_2=0 then ((metric_isCoord.f a0_3).bind fun t110=>((metric_isCode.f a0_0).bind fun t111=>(if t111=true then ((metric_isCode.f a0_1).bind fun t112=>(if t112=true then (if a0_2≥0 then (if a0_2≤4 then (some t110) else (some false)) else (some false)) else (some false))) else (some false)))) else ((metric_isCode.f a0_0).bind fun t113=>(if t113=true then ((metric_isCode.f a0_1).bind fun t114=>(if t114=true then (if a0_2≥0 then (if a0_2≤4 then (some t109) else (some false)) else (some false)) else (some false))) else (some false))))
set_option maxHeartbeats 8000000 in
theorem metric_isRule.calls (a0_0 : Int) (a0_1 : Int) (a0_2 : Int) (a0_3 : Int) (r : Bool) (w : World) (h : metric_isRule.f a0_0 a0_1 a0_2 a0_3 = some r) :
  Calls Tryz.prog 52 #[.agg #[.int .i64 a0_0,.int .i64 a0_1,.int .i64 a0_2,.int .i64 a0_3]] w fun e w'=>e = .returned (.bool r)∧Below w.heap.size w w':=by
 have hu45:=Tryz.underlying45
 have HB:=aK (Below.refl w.heap.size w)
 have H:((metric_isCode.f a0_3).bind fun t109=>(if a0_2=0 then ((metric_isCoord.f a0_3).bind fun t110=>((metric_isCode.f a0_0).bind fun t111=>(if t111=true then ((metric_isCode.f a0_1).bind fun t112=>(if t112=true then (if a0_2≥0 then (if a0_2≤4 then (some t110) else (some false)) else (some false)) else (some false))) else (some false)))) else ((metric_isCode.f a0_0).bind fun t113=>(if t113=true then ((metric_isCode.f a0_1).bind fun t114=>(if t114=true then (if a0_2≥0 then (if a0_2≤4 then (some t109) else (some false)) else (some false)) else (some false))) else (some false)))))=some r:=h
 clear h
 replace H:=Option.bind_eq_some_iff.mp H
 obtain ⟨t109,A20,H⟩:=H
 replace H:(if a0_2=0 then ((metric_isCoord.f a0_3).bind fun t110=>((metric_isCode.f a0_0).bind fun t111=>(if t111=true then ((metric_isCode.f a0_1).bind fun t112=>(if t112=true then (if a0_2≥0 then (if a0_2≤4 then (some t110) else (some false)) else (some false)) else (some false))) else (some false)))) else ((metric_isCode.f a0_0).bind fun t113=>(if t113=true then ((metric_isCode.f a0_1).bind fun t114=>(if t114=true then (if a0_2≥0 then (if a0_2≤4 then (some t109) else (some false)) else (some false)) else (some false))) else (some false))))=some r:=H
 have A2:=aK A20
 clear A20
 by_cases c3:a0_2=0
 ·rw [if_pos c3] at H
  have c3b0:(a0_2 == 0)=true:=beq_iff_eq.mpr c3
  have c3b1:(a0_2 != 0)=false:=bne_eq_false_iff_eq.mpr c3
  clear c3
  replace H:=Option.bind_eq_some_iff.mp H
  obtain ⟨t110,A40,H⟩:=H
  replace H:((metric_isCode.f a0_0).bind fun t111=>(if t111=true then ((metric_isCode.f a0_1).bind fun t112=>(if t112=true then (if a0_2≥0 then (if a0_2≤4 then (some t110) else (some false)) else (some false)) else (some false))) else (some false)))=some r:=H
  have A4:=aK A40
  clear A40
  replace H:=Option.bind_eq_some_iff.mp H
  obtain ⟨t111,A50,H⟩:=H
  replace H:(if t111=true then ((metric_isCode.f a0_1).bind fun t112=>(if t112=true then (if a0_2≥0 then (if a0_2≤4 then (some t110) else (some false)) else (some false)) else (some false))) else (some false))=some r:=H
  have A5:=aK A50
  clear A50
  by_cases c6:t111=true
  ·subst c6
   have H1:((metric_isCode.f a0_1).bind fun t112=>(if t112=true then (if a0_2≥0 then (if a0_2≤4 then (some t110) else (some false)) else (some false)) else (some false)))=some r:=by rw [if_pos rfl] at H;exact H
   clear H
   have H:=H1
   clear H1
   replace H:=Option.bind_eq_some_iff.mp H
   obtain ⟨t112,A70,H⟩:=H
   replace H:(if t112=true then (if a0_2≥0 then (if a0_2≤4 then (some t110) else (some false)) else (some false)) else (some false))=some r:=H
   have A7:=aK A70
   clear A70
   by_cases c8:t112=true
   ·subst c8
    have H1:(if a0_2≥0 then (if a0_2≤4 then (some t110) else (some false)) else (some false))=some r:=by rw [if_pos rfl] at H;exact H
    clear H
    have H:=H1
    clear H1
    by_cases c9:a0_2≥0
    ·rw [if_pos c9] at H
     have c9b0:decide (0≤a0_2)=true:=decide_eq_true c9
     clear c9
     by_cases c10:a0_2≤4
     ·rw [if_pos c10] at H
      have c10b0:decide (a0_2≤4)=true:=decide_eq_true c10
      clear c10
      obtain rfl:=Option.some.inj H
      go_enter Tryz.func52,Tryz.ntmps52
      go_wp2_with (first|((with_reducible refine gate_dst (N:=1) rfl ?_);refine box_event ?hg (N:=1) ?hd (cs:=#[.int .i64 a0_0,.int .i64 a0_1,.int .i64 a0_2,.int .i64 a0_3]) (t:=45) ?hr ?_;(case hd=>rfl);(case hg=>rfl);(case hr=>first|(go_simp;done)|(go_simp;rfl));intro gb108 hg w11 hbox hb;have n0_:=aK (below_step (by repeat (first|(with_reducible first|exact HB.out|apply below_alloc|apply pw_below_drewN|apply below_drew1)|exact HB.out)) hb);have n1_:=aK (hbox);have n2_:=aK ((by rw [hg];exact (below_size (by repeat (first|(with_reducible first|exact HB.out|apply below_alloc|apply pw_below_drewN|apply below_drew1)|exact HB.out))):w.heap.size≤gb108));have n3_:=n2_;clear HB;have HB:=n0_;have BK108:=n1_;have GW108:=n2_;have GE108:=n3_;clear n0_ n1_ n2_ n3_;clear hb hbox hg;have hcz12_0:w11.cell? ⟨gb108,0,none⟩=some (.int .i64 a0_0):=(blk_cell BK108.out 0).trans rfl;have hcz12_1:w11.cell? ⟨gb108,1,none⟩=some (.int .i64 a0_1):=(blk_cell BK108.out 1).trans rfl;have hcz12_2:w11.cell? ⟨gb108,2,none⟩=some (.int .i64 a0_2):=(blk_cell BK108.out 2).trans rfl;have hcz12_3:w11.cell? ⟨gb108,3,none⟩=some (.int .i64 a0_3):=(blk_cell BK108.out 3).trans rfl;have hfz12_0:=blk_frozen BK108.out 0;have hfz12_1:=blk_frozen BK108.out 1;have hfz12_2:=blk_frozen BK108.out 2;have hfz12_3:=blk_frozen BK108.out 3)|((with_reducible refine gate_callee (f:=84) rfl ?_);refine goesL_ (some 6) rfl rfl Tryz.func84 (by kernel_rfl) rfl #[.int .i64 a0_3] rfl (by (try simp only [List.map_toArray,List.map_cons,List.map_nil]);first|done|rfl|(simp only [List.length_drop,List.length_take];rfl)) ?_;(with_reducible refine (metric_isCode.calls a0_3 t109 _ A2.out).mono ?_);rintro e w' ⟨rfl,⟨nd,rfl⟩⟩;refine ⟨_,rfl,?_⟩)|((with_reducible refine gate_callee (f:=85) rfl ?_);refine goesL_ (some 12) rfl rfl Tryz.func85 (by kernel_rfl) rfl #[.int .i64 a0_3] rfl (by (try simp only [List.map_toArray,List.map_cons,List.map_nil]);first|done|rfl|(simp only [List.length_drop,List.length_take];rfl)) ?_;(with_reducible refine (metric_isCoord.calls a0_3 t110 _ A4.out).mono ?_);rintro e w' ⟨rfl,⟨nd,rfl⟩⟩;refine ⟨_,rfl,?_⟩)|((with_reducible refine gate_callee (f:=84) rfl ?_);refine goesL_ (some 15) rfl rfl Tryz.func84 (by kernel_rfl) rfl #[.int .i64 a0_0] rfl (by (try simp only [List.map_toArray,List.map_cons,List.map_nil]);first|done|rfl|(simp only [List.length_drop,List.length_take];rfl)) ?_;(with_reducible refine (metric_isCode.calls a0_0 true _ A5.out).mono ?_);rintro e w' ⟨rfl,⟨nd,rfl⟩⟩;refine ⟨_,rfl,?_⟩)|(go_at_call 84;(with_reducible refine (metric_isCode.calls a0_1 true _ A7.out).mono ?_);rintro e w' ⟨rfl,⟨nd,rfl⟩⟩))
      go_ret
      exact ⟨by first|rfl|(simp [errW_none,errW_some] <;> rfl)|(simp [*,errW_none,errW_some] <;> rfl),by repeat (first|(with_reducible first|exact HB.out|apply below_alloc|apply pw_below_drewN|apply below_drew1|refine below_set ?_ GE108.out)|exact HB.out)⟩
     ·rw [if_neg c10] at H
      have c10b0:decide (a0_2≤4)=false:=decide_eq_false c10
      clear c10
      obtain rfl:=Option.some.inj H
      go_enter Tryz.func52,Tryz.ntmps52
      go_wp2_with (first|((with_reducible refine gate_dst (N:=1) rfl ?_);refine box_event ?hg (N:=1) ?hd (cs:=#[.int .i64 a0_0,.int .i64 a0_1,.int .i64 a0_2,.int .i64 a0_3]) (t:=45) ?hr ?_;(case hd=>rfl);(case hg=>rfl);(case hr=>first|(go_simp;done)|(go_simp;rfl));intro gb108 hg w13 hbox hb;have n0_:=aK (below_step (by repeat (first|(with_reducible first|exact HB.out|apply below_alloc|apply pw_below_drewN|apply below_drew1)|exact HB.out)) hb);have n1_:=aK (hbox);have n2_:=aK ((by rw [hg];exact (below_size (by repeat (first|(with_reducible first|exact HB.out|apply below_alloc|apply pw_below_drewN|apply below_drew1)|exact HB.out))):w.heap.size≤gb108));have n3_:=n2_;clear HB;have HB:=n0_;have BK108:=n1_;have GW108:=n2_;have GE108:=n3_;clear n0_ n1_ n2_ n3_;clear hb hbox hg;have hcz14_0:w13.cell? ⟨gb108,0,none⟩=some (.int .i64 a0_0):=(blk_cell BK108.out 0).trans rfl;have hcz14_1:w13.cell? ⟨gb108,1,none⟩=some (.int .i64 a0_1):=(blk_cell BK108.out 1).trans rfl;have hcz14_2:w13.cell? ⟨gb108,2,none⟩=some (.int .i64 a0_2):=(blk_cell BK108.out 2).trans rfl;have hcz14_3:w13.cell? ⟨gb108,3,none⟩=some (.int .i64 a0_3):=(blk_cell BK108.out 3).trans rfl;have hfz14_0:=blk_frozen BK108.out 0;have hfz14_1:=blk_frozen BK108.out 1;have hfz14_2:=blk_frozen BK108.out 2;have hfz14_3:=blk_frozen BK108.out 3)|((with_reducible refine gate_callee (f:=84) rfl ?_);refine goesL_ (some 6) rfl rfl Tryz.func84 (by kernel_rfl) rfl #[.int .i64 a0_3] rfl (by (try simp only [List.map_toArray,List.map_cons,List.map_nil]);first|done|rfl|(simp only [List.length_drop,List.length_take];rfl)) ?_;(with_reducible refine (metric_isCode.calls a0_3 t109 _ A2.out).mono ?_);rintro e w' ⟨rfl,⟨nd,rfl⟩⟩;refine ⟨_,rfl,?_⟩)|((with_reducible refine gate_callee (f:=85) rfl ?_);refine goesL_ (some 12) rfl rfl Tryz.func85 (by kernel_rfl) rfl #[.int .i64 a0_3] rfl (by (try simp only [List.map_toArray,List.map_cons,List.map_nil]);first|done|rfl|(simp only [List.length_drop,List.length_take];rfl)) ?_;(with_reducible refine (metric_isCoord.calls a0_3 t110 _ A4.out).mono ?_);rintro e w' ⟨rfl,⟨nd,rfl⟩⟩;refine ⟨_,rfl,?_⟩)|((with_reducible refine gate_callee (f:=84) rfl ?_);refine goesL_ (some 15) rfl rfl Tryz.func84 (by kernel_rfl) rfl #[.int .i64 a0_0] rfl (by (try simp only [List.map_toArray,List.map_cons,List.map_nil]);first|done|rfl|(simp only [List.length_drop,List.length_take];rfl)) ?_;(with_reducible refine (metric_isCode.calls a0_0 true _ A5.out).mono ?_);rintro e w' ⟨rfl,⟨nd,rfl⟩⟩;refine ⟨_,rfl,?_⟩)|(go_at_call 84;(with_reducible refine (metric_isCode.calls a0_1 true _ A7.out).mono ?_);rintro e w' ⟨rfl,⟨nd,rfl⟩⟩))
      go_ret
      exact ⟨by first|rfl|(simp [errW_none,errW_some] <;> rfl)|(simp [*,errW_none,errW_some] <;> rfl),by repeat (first|(with_reducible first|exact HB.out|apply below_alloc|apply pw_below_drewN|apply below_drew1|refine below_set ?_ GE108.out)|exact HB.out)⟩
    ·rw [if_neg c9] at H
     have c9b0:decide (0≤a0_2)=false:=decide_eq_false c9
     clear c9
     obtain rfl:=Option.some.inj H
     go_enter Tryz.func52,Tryz.ntmps52
     go_wp2_with (first|((with_reducible refine gate_dst (N:=1) rfl ?_);refine box_event ?hg (N:=1) ?hd (cs:=#[.int .i64 a0_0,.int .i64 a0_1,.int .i64 a0_2,.int .i64 a0_3]) (t:=45) ?hr ?_;(case hd=>rfl);(case hg=>rfl);(case hr=>first|(go_simp;done)|(go_simp;rfl));intro gb108 hg w15 hbox hb;have n0_:=aK (below_step (by repeat (first|(with_reducible first|exact HB.out|apply below_alloc|apply pw_below_drewN|apply below_drew1)|exact HB.out)) hb);have n1_:=aK (hbox);have n2_:=aK ((by rw [hg];exact (below_size (by repeat (first|(with_reducible first|exact HB.out|apply below_alloc|apply pw_below_drewN|apply below_drew1)|exact HB.out))):w.heap.size≤gb108));have n3_:=n2_;clear HB;have HB:=n0_;have BK108:=n1_;have GW108:=n2_;have GE108:=n3_;clear n0_ n1_ n2_ n3_;clear hb hbox hg;have hcz16_0:w15.cell? ⟨gb108,0,none⟩=some (.int .i64 a0_0):=(blk_cell BK108.out 0).trans rfl;have hcz16_1:w15.cell? ⟨gb108,1,none⟩=some (.int .i64 a0_1):=(blk_cell BK108.out 1).trans rfl;have hcz16_2:w15.cell? ⟨gb108,2,none⟩=some (.int .i64 a0_2):=(blk_cell BK108.out 2).trans rfl;have hcz16_3:w15.cell? ⟨gb108,3,none⟩=some (.int .i64 a0_3):=(blk_cell BK108.out 3).trans rfl;have hfz16_0:=blk_frozen BK108.out 0;have hfz16_1:=blk_frozen BK108.out 1;have hfz16_2:=blk_frozen BK108.out 2;have hfz16_3:=blk_frozen BK108.out 3)|((with_reducible refine gate_callee (f:=84) rfl ?_);refine goesL_ (some 6) rfl rfl Tryz.func84 (by kernel_rfl) rfl #[.int .i64 a0_3] rfl (by (try simp only [List.map_toArray,List.map_cons,List.map_nil]);first|done|rfl|(simp only [List.length_drop,List.length_take];rfl)) ?_;(with_reducible refine (metric_isCode.calls a0_3 t109 _ A2.out).mono ?_);rintro e w' ⟨rfl,⟨nd,rfl⟩⟩;refine ⟨_,rfl,?_⟩)|((with_reducible refine gate_callee (f:=85) rfl ?_);refine goesL_ (some 12) rfl rfl Tryz.func85 (by kernel_rfl) rfl #[.int .i64 a0_3] rfl (by (try simp only [List.map_toArray,List.map_cons,List.map_nil]);first|done|rfl|(simp only [List.length_drop,List.length_take];rfl)) ?_;(with_reducible refine (metric_isCoord.calls a0_3 t110 _ A4.out).mono ?_);rintro e w' ⟨rfl,⟨nd,rfl⟩⟩;refine ⟨_,rfl,?_⟩)|((with_reducible refine gate_callee (f:=84) rfl ?_);refine goesL_ (some 15) rfl rfl Tryz.func84 (by kernel_rfl) rfl #[.int .i64 a0_0] rfl (by (try simp only [List.map_toArray,List.map_cons,List.map_nil]);first|done|rfl|(simp only [List.length_drop,List.length_take];rfl)) ?_;(with_reducible refine (metric_isCode.calls a0_0 true _ A5.out).mono ?_);rintro e w' ⟨rfl,⟨nd,rfl⟩⟩;refine ⟨_,rfl,?_⟩)|(go_at_call 84;(with_reducible refine (metric_isCode.calls a0_1 true _ A7.out).mono ?_);rintro e w' ⟨rfl,⟨nd,rfl⟩⟩))
     go_ret
     exact ⟨by first|rfl|(simp [errW_none,errW_some] <;> rfl)|(simp [*,errW_none,errW_some] <;> rfl),by repeat (first|(with_reducible first|exact HB.out|apply below_alloc|apply pw_below_drewN|apply below_drew1|refine below_set ?_ GE108.out)|exact HB.out)⟩
   ·replace c8:=Bool.eq_false_iff.mpr c8
    subst c8
    have H1:(some false)=some r:=by rw [if_neg (show ¬ (false=true) by decide)] at H;exact H
    clear H
    have H:=H1
    clear H1
    obtain rfl:=Option.some.inj H
    go_enter Tryz.func52,Tryz.ntmps52
    go_wp2_with (first|((with_reducible refine gate_dst (N:=1) rfl ?_);refine box_event ?hg (N:=1) ?hd (cs:=#[.int .i64 a0_0,.int .i64 a0_1,.int .i64 a0_2,.int .i64 a0_3]) (t:=45) ?hr ?_;(case hd=>rfl);(case hg=>rfl);(case hr=>first|(go_simp;done)|(go_simp;rfl));intro gb108 hg w17 hbox hb;have n0_:=aK (below_step (by repeat (first|(with_reducible first|exact HB.out|apply below_alloc|apply pw_below_drewN|apply below_drew1)|exact HB.out)) hb);have n1_:=aK (hbox);have n2_:=aK ((by rw [hg];exact (below_size (by repeat (first|(with_reducible first|exact HB.out|apply below_alloc|apply pw_below_drewN|apply below_drew1)|exact HB.out))):w.heap.size≤gb108));have n3_:=n2_;clear HB;have HB:=n0_;have BK108:=n1_;have GW108:=n2_;have GE108:=n3_;clear n0_ n1_ n2_ n3_;clear hb hbox hg;have hcz18_0:w17.cell? ⟨gb108,0,none⟩=some (.int .i64 a0_0):=(blk_cell BK108.out 0).trans rfl;have hcz18_1:w17.cell? ⟨gb108,1,none⟩=some (.int .i64 a0_1):=(blk_cell BK108.out 1).trans rfl;have hcz18_2:w17.cell? ⟨gb108,2,none⟩=some (.int .i64 a0_2):=(blk_cell BK108.out 2).trans rfl;have hcz18_3:w17.cell? ⟨gb108,3,none⟩=some (.int .i64 a0_3):=(blk_cell BK108.out 3).trans rfl;have hfz18_0:=blk_frozen BK108.out 0;have hfz18_1:=blk_frozen BK108.out 1;have hfz18_2:=blk_frozen BK108.out 2;have hfz18_3:=blk_frozen BK108.out 3)|((with_reducible refine gate_callee (f:=84) rfl ?_);refine goesL_ (some 6) rfl rfl Tryz.func84 (by kernel_rfl) rfl #[.int .i64 a0_3] rfl (by (try simp only [List.map_toArray,List.map_cons,List.map_nil]);first|done|rfl|(simp only [List.length_drop,List.length_take];rfl)) ?_;(with_reducible refine (metric_isCode.calls a0_3 t109 _ A2.out).mono ?_);rintro e w' ⟨rfl,⟨nd,rfl⟩⟩;refine ⟨_,rfl,?_⟩)|((with_reducible refine gate_callee (f:=85) rfl ?_);refine goesL_ (some 12) rfl rfl Tryz.func85 (by kernel_rfl) rfl #[.int .i64 a0_3] rfl (by (try simp only [List.map_toArray,List.map_cons,List.map_nil]);first|done|rfl|(simp only [List.length_drop,List.length_take];rfl)) ?_;(with_reducible refine (metric_isCoord.calls a0_3 t110 _ A4.out).mono ?_);rintro e w' ⟨rfl,⟨nd,rfl⟩⟩;refine ⟨_,rfl,?_⟩)|((with_reducible refine gate_callee (f:=84) rfl ?_);refine goesL_ (some 15) rfl rfl Tryz.func84 (by kernel_rfl) rfl #[.int .i64 a0_0] rfl (by (try simp only [List.map_toArray,List.map_cons,List.map_nil]);first|done|rfl|(simp only [List.length_drop,List.length_take];rfl)) ?_;(with_reducible refine (metric_isCode.calls a0_0 true _ A5.out).mono ?_);rintro e w' ⟨rfl,⟨nd,rfl⟩⟩;refine ⟨_,rfl,?_⟩)|(go_at_call 84;(with_reducible refine (metric_isCode.calls a0_1 false _ A7.out).mono ?_);rintro e w' ⟨rfl,⟨nd,rfl⟩⟩))
    go_ret
    exact ⟨by first|rfl|(simp [errW_none,errW_some] <;> rfl)|(simp [*,errW_none,errW_some] <;> rfl),by repeat (first|(with_reducible first|exact HB.out|apply below_alloc|apply pw_below_drewN|apply below_drew1|refine below_set ?_ GE108.out)|exact HB.out)⟩
  ·replace c6:=Bool.eq_false_iff.mpr c6
   subst c6
   have H1:(some false)=some r:=by rw [if_neg (show ¬ (false=true) by decide)] at H;exact H
   clear H
   have H:=H1
   clear H1
   obtain rfl:=Option.some.inj H
   go_enter Tryz.func52,Tryz.ntmps52
   go_wp2_with (first|((with_reducible refine gate_dst (N:=1) rfl ?_);refine box_event ?hg (N:=1) ?hd (cs:=#[.int .i64 a0_0,.int .i64 a0_1,.int .i64 a0_2,.int .i64 a0_3]) (t:=45) ?hr ?_;(case hd=>rfl);(case hg=>rfl);(case hr=>first|(go_simp;done)|(go_simp;rfl));intro gb108 hg w19 hbox hb;have n0_:=aK (below_step (by repeat (first|(with_reducible first|exact HB.out|apply below_alloc|apply pw_below_drewN|apply below_drew1)|exact HB.out)) hb);have n1_:=aK (hbox);have n2_:=aK ((by rw [hg];exact (below_size (by repeat (first|(with_reducible first|exact HB.out|apply below_alloc|apply pw_below_drewN|apply below_drew1)|exact HB.out))):w.heap.size≤gb108));have n3_:=n2_;clear HB;have HB:=n0_;have BK108:=n1_;have GW108:=n2_;have GE108:=n3_;clear n0_ n1_ n2_ n3_;clear hb hbox hg;have hcz20_0:w19.cell? ⟨gb108,0,none⟩=some (.int .i64 a0_0):=(blk_cell BK108.out 0).trans rfl;have hcz20_1:w19.cell? ⟨gb108,1,none⟩=some (.int .i64 a0_1):=(blk_cell BK108.out 1).trans rfl;have hcz20_2:w19.cell? ⟨gb108,2,none⟩=some (.int .i64 a0_2):=(blk_cell BK108.out 2).trans rfl;have hcz20_3:w19.cell? ⟨gb108,3,none⟩=some (.int .i64 a0_3):=(blk_cell BK108.out 3).trans rfl;have hfz20_0:=blk_frozen BK108.out 0;have hfz20_1:=blk_frozen BK108.out 1;have hfz20_2:=blk_frozen BK108.out 2;have hfz20_3:=blk_frozen BK108.out 3)|((with_reducible refine gate_callee (f:=84) rfl ?_);refine goesL_ (some 6) rfl rfl Tryz.func84 (by kernel_rfl) rfl #[.int .i64 a0_3] rfl (by (try simp only [List.map_toArray,List.map_cons,List.map_nil]);first|done|rfl|(simp only [List.length_drop,List.length_take];rfl)) ?_;(with_reducible refine (metric_isCode.calls a0_3 t109 _ A2.out).mono ?_);rintro e w' ⟨rfl,⟨nd,rfl⟩⟩;refine ⟨_,rfl,?_⟩)|((with_reducible refine gate_callee (f:=85) rfl ?_);refine goesL_ (some 12) rfl rfl Tryz.func85 (by kernel_rfl) rfl #[.int .i64 a0_3] rfl (by (try simp only [List.map_toArray,List.map_cons,List.map_nil]);first|done|rfl|(simp only [List.length_drop,List.length_take];rfl)) ?_;(with_reducible refine (metric_isCoord.calls a0_3 t110 _ A4.out).mono ?_);rintro e w' ⟨rfl,⟨nd,rfl⟩⟩;refine ⟨_,rfl,?_⟩)|((with_reducible refine gate_callee (f:=84) rfl ?_);refine goesL_ (some 15) rfl rfl Tryz.func84 (by kernel_rfl) rfl #[.int .i64 a0_0] rfl (by (try simp only [List.map_toArray,List.map_cons,List.map_nil]);first|done|rfl|(simp only [List.length_drop,List.length_take];rfl)) ?_;(with_reducible refine (metric_isCode.calls a0_0 false _ A5.out).mono ?_);rintro e w' ⟨rfl,⟨nd,rfl⟩⟩;refine ⟨_,rfl,?_⟩))
   go_ret
   exact ⟨by first|rfl|(simp [errW_none,errW_some] <;> rfl)|(simp [*,errW_none,errW_some] <;> rfl),by repeat (first|(with_reducible first|exact HB.out|apply below_alloc|apply pw_below_drewN|apply below_drew1|refine below_set ?_ GE108.out)|exact HB.out)⟩
 ·rw [if_neg c3] at H
  have c3b0:(a0_2 == 0)=false:=beq_eq_false_iff_ne.mpr c3
  have c3b1:(a0_2 != 0)=true:=bne_iff_ne.mpr c3
  replace H:=Option.bind_eq_some_iff.mp H
  obtain ⟨t113,A210,H⟩:=H
  replace H:(if t113=true then ((metric_isCode.f a0_1).bind fun t114=>(if t114=true then (if a0_2≥0 then (if a0_2≤4 then (some t109) else (some false)) else (some false)) else (some false))) else (some false))=some r:=H
  have A21:=aK A210
  clear A210
  by_cases c22:t113=true
  ·subst c22
   have H1:((metric_isCode.f a0_1).bind fun t114=>(if t114=true then (if a0_2≥0 then (if a0_2≤4 then (some t109) else (some false)) else (some false)) else (some false)))=some r:=by rw [if_pos rfl] at H;exact H
   clear H
   have H:=H1
   clear H1
   replace H:=Option.bind_eq_some_iff.mp H
   obtain ⟨t114,A230,H⟩:=H
   replace H:(if t114=true then (if a0_2≥0 then (if a0_2≤4 then (some t109) else (some false)) else (some false)) else (some false))=some r:=H
   have A23:=aK A230
   clear A230
   by_cases c24:t114=true
   ·subst c24
    have H1:(if a0_2≥0 then (if a0_2≤4 then (some t109) else (some false)) else (some false))=some r:=by rw [if_pos rfl] at H;exact H
    clear H
    have H:=H1
    clear H1
    by_cases c25:a0_2≥0
    ·rw [if_pos c25] at H
     have c25b0:decide (0≤a0_2)=true:=decide_eq_true c25
     clear c25
     by_cases c26:a0_2≤4
     ·rw [if_pos c26] at H
      have c26b0:decide (a0_2≤4)=true:=decide_eq_true c26
      clear c26
      obtain rfl:=Option.some.inj H
      go_enter Tryz.func52,Tryz.ntmps52
      go_wp2_with (first|((with_reducible refine gate_dst (N:=1) rfl ?_);refine box_event ?hg (N:=1) ?hd (cs:=#[.int .i64 a0_0,.int .i64 a0_1,.int .i64 a0_2,.int .i64 a0_3]) (t:=45) ?hr ?_;(case hd=>rfl);(case hg=>rfl);(case hr=>first|(go_simp;done)|(go_simp;rfl));intro gb108 hg w27 hbox hb;have n0_:=aK (below_step (by repeat (first|(with_reducible first|exact HB.out|apply below_alloc|apply pw_below_drewN|apply below_drew1)|exact HB.out)) hb);have n1_:=aK (hbox);have n2_:=aK ((by rw [hg];exact (below_size (by repeat (first|(with_reducible first|exact HB.out|apply below_alloc|apply pw_below_drewN|apply below_drew1)|exact HB.out))):w.heap.size≤gb108));have n3_:=n2_;clear HB;have HB:=n0_;have BK108:=n1_;have GW108:=n2_;have GE108:=n3_;clear n0_ n1_ n2_ n3_;clear hb hbox hg;have hcz28_0:w27.cell? ⟨gb108,0,none⟩=some (.int .i64 a0_0):=(blk_cell BK108.out 0).trans rfl;have hcz28_1:w27.cell? ⟨gb108,1,none⟩=some (.int .i64 a0_1):=(blk_cell BK108.out 1).trans rfl;have hcz28_2:w27.cell? ⟨gb108,2,none⟩=some (.int .i64 a0_2):=(blk_cell BK108.out 2).trans rfl;have hcz28_3:w27.cell? ⟨gb108,3,none⟩=some (.int .i64 a0_3):=(blk_cell BK108.out 3).trans rfl;have hfz28_0:=blk_frozen BK108.out 0;have hfz28_1:=blk_frozen BK108.out 1;have hfz28_2:=blk_frozen BK108.out 2;have hfz28_3:=blk_frozen BK108.out 3)|((with_reducible refine gate_callee (f:=84) rfl ?_);refine goesL_ (some 6) rfl rfl Tryz.func84 (by kernel_rfl) rfl #[.int .i64 a0_3] rfl (by (try simp only [List.map_toArray,List.map_cons,List.map_nil]);first|done|rfl|(simp only [List.length_drop,List.length_take];rfl)) ?_;(with_reducible refine (metric_isCode.calls a0_3 t109 _ A2.out).mono ?_);rintro e w' ⟨rfl,⟨nd,rfl⟩⟩;refine ⟨_,rfl,?_⟩)|((with_reducible refine gate_callee (f:=84) rfl ?_);refine goesL_ (some 15) rfl rfl Tryz.func84 (by kernel_rfl) rfl #[.int .i64 a0_0] rfl (by (try simp only [List.map_toArray,List.map_cons,List.map_nil]);first|done|rfl|(simp only [List.length_drop,List.length_take];rfl)) ?_;(with_reducible refine (metric_isCode.calls a0_0 true _ A21.out).mono ?_);rintro e w' ⟨rfl,⟨nd,rfl⟩⟩;refine ⟨_,rfl,?_⟩)|(go_at_call 84;(with_reducible refine (metric_isCode.calls a0_1 true _ A23.out).mono ?_);rintro e w' ⟨rfl,⟨nd,rfl⟩⟩))
      go_ret
      exact ⟨by first|rfl|(simp [errW_none,errW_some] <;> rfl)|(simp [*,errW_none,errW_some] <;> rfl),by repeat (first|(with_reducible first|exact HB.out|apply below_alloc|apply pw_below_drewN|apply below_drew1|refine below_set ?_ GE108.out)|exact HB.out)⟩
     ·rw [if_neg c26] at H
      have c26b0:decide (a0_2≤4)=false:=decide_eq_false c26
      clear c26
      obtain rfl:=Option.some.inj H
      go_enter Tryz.func52,Tryz.ntmps52
      go_wp2_with (first|((with_reducible refine gate_dst (N:=1) rfl ?_);refine box_event ?hg (N:=1) ?hd (cs:=#[.int .i64 a0_0,.int .i64 a0_1,.int .i64 a0_2,.int .i64 a0_3]) (t:=45) ?hr ?_;(case hd=>rfl);(case hg=>rfl);(case hr=>first|(go_simp;done)|(go_simp;rfl));intro gb108 hg w29 hbox hb;have n0_:=aK (below_step (by repeat (first|(with_reducible first|exact HB.out|apply below_alloc|apply pw_below_drewN|apply below_drew1)|exact HB.out)) hb);have n1_:=aK (hbox);have n2_:=aK ((by rw [hg];exact (below_size (by repeat (first|(with_reducible first|exact HB.out|apply below_alloc|apply pw_below_drewN|apply below_drew1)|exact HB.out))):w.heap.size≤gb108));have n3_:=n2_;clear HB;have HB:=n0_;have BK108:=n1_;have GW108:=n2_;have GE108:=n3_;clear n0_ n1_ n2_ n3_;clear hb hbox hg;have hcz30_0:w29.cell? ⟨gb108,0,none⟩=some (.int .i64 a0_0):=(blk_cell BK108.out 0).trans rfl;have hcz30_1:w29.cell? ⟨gb108,1,none⟩=some (.int .i64 a0_1):=(blk_cell BK108.out 1).trans rfl;have hcz30_2:w29.cell? ⟨gb108,2,none⟩=some (.int .i64 a0_2):=(blk_cell BK108.out 2).trans rfl;have hcz30_3:w29.cell? ⟨gb108,3,none⟩=some (.int .i64 a0_3):=(blk_cell BK108.out 3).trans rfl;have hfz30_0:=blk_frozen BK108.out 0;have hfz30_1:=blk_frozen BK108.out 1;have hfz30_2:=blk_frozen BK108.out 2;have hfz30_3:=blk_frozen BK108.out 3)|((with_reducible refine gate_callee (f:=84) rfl ?_);refine goesL_ (some 6) rfl rfl Tryz.func84 (by kernel_rfl) rfl #[.int .i64 a0_3] rfl (by (try simp only [List.map_toArray,List.map_cons,List.map_nil]);first|done|rfl|(simp only [List.length_drop,List.length_take];rfl)) ?_;(with_reducible refine (metric_isCode.calls a0_3 t109 _ A2.out).mono ?_);rintro e w' ⟨rfl,⟨nd,rfl⟩⟩;refine ⟨_,rfl,?_⟩)|((with_reducible refine gate_callee (f:=84) rfl ?_);refine goesL_ (some 15) rfl rfl Tryz.func84 (by kernel_rfl) rfl #[.int .i64 a0_0] rfl (by (try simp only [List.map_toArray,List.map_cons,List.map_nil]);first|done|rfl|(simp only [List.length_drop,List.length_take];rfl)) ?_;(with_reducible refine (metric_isCode.calls a0_0 true _ A21.out).mono ?_);rintro e w' ⟨rfl,⟨nd,rfl⟩⟩;refine ⟨_,rfl,?_⟩)|(go_at_call 84;(with_reducible refine (metric_isCode.calls a0_1 true _ A23.out).mono ?_);rintro e w' ⟨rfl,⟨nd,rfl⟩⟩))
      go_ret
      exact ⟨by first|rfl|(simp [errW_none,errW_some] <;> rfl)|(simp [*,errW_none,errW_some] <;> rfl),by repeat (first|(with_reducible first|exact HB.out|apply below_alloc|apply pw_below_drewN|apply below_drew1|refine below_set ?_ GE108.out)|exact HB.out)⟩
    ·rw [if_neg c25] at H
     have c25b0:decide (0≤a0_2)=false:=decide_eq_false c25
     clear c25
     obtain rfl:=Option.some.inj H
     go_enter Tryz.func52,Tryz.ntmps52
     go_wp2_with (first|((with_reducible refine gate_dst (N:=1) rfl ?_);refine box_event ?hg (N:=1) ?hd (cs:=#[.int .i64 a0_0,.int .i64 a0_1,.int .i64 a0_2,.int .i64 a0_3]) (t:=45) ?hr ?_;(case hd=>rfl);(case hg=>rfl);(case hr=>first|(go_simp;done)|(go_simp;rfl));intro gb108 hg w31 hbox hb;have n0_:=aK (below_step (by repeat (first|(with_reducible first|exact HB.out|apply below_alloc|apply pw_below_drewN|apply below_drew1)|exact HB.out)) hb);have n1_:=aK (hbox);have n2_:=aK ((by rw [hg];exact (below_size (by repeat (first|(with_reducible first|exact HB.out|apply below_alloc|apply pw_below_drewN|apply below_drew1)|exact HB.out))):w.heap.size≤gb108));have n3_:=n2_;clear HB;have HB:=n0_;have BK108:=n1_;have GW108:=n2_;have GE108:=n3_;clear n0_ n1_ n2_ n3_;clear hb hbox hg;have hcz32_0:w31.cell? ⟨gb108,0,none⟩=some (.int .i64 a0_0):=(blk_cell BK108.out 0).trans rfl;have hcz32_1:w31.cell? ⟨gb108,1,none⟩=some (.int .i64 a0_1):=(blk_cell BK108.out 1).trans rfl;have hcz32_2:w31.cell? ⟨gb108,2,none⟩=some (.int .i64 a0_2):=(blk_cell BK108.out 2).trans rfl;have hcz32_3:w31.cell? ⟨gb108,3,none⟩=some (.int .i64 a0_3):=(blk_cell BK108.out 3).trans rfl;have hfz32_0:=blk_frozen BK108.out 0;have hfz32_1:=blk_frozen BK108.out 1;have hfz32_2:=blk_frozen BK108.out 2;have hfz32_3:=blk_frozen BK108.out 3)|((with_reducible refine gate_callee (f:=84) rfl ?_);refine goesL_ (some 6) rfl rfl Tryz.func84 (by kernel_rfl) rfl #[.int .i64 a0_3] rfl (by (try simp only [List.map_toArray,List.map_cons,List.map_nil]);first|done|rfl|(simp only [List.length_drop,List.length_take];rfl)) ?_;(with_reducible refine (metric_isCode.calls a0_3 t109 _ A2.out).mono ?_);rintro e w' ⟨rfl,⟨nd,rfl⟩⟩;refine ⟨_,rfl,?_⟩)|((with_reducible refine gate_callee (f:=84) rfl ?_);refine goesL_ (some 15) rfl rfl Tryz.func84 (by kernel_rfl) rfl #[.int .i64 a0_0] rfl (by (try simp only [List.map_toArray,List.map_cons,List.map_nil]);first|done|rfl|(simp only [List.length_drop,List.length_take];rfl)) ?_;(with_reducible refine (metric_isCode.calls a0_0 true _ A21.out).mono ?_);rintro e w' ⟨rfl,⟨nd,rfl⟩⟩;refine ⟨_,rfl,?_⟩)|(go_at_call 84;(with_reducible refine (metric_isCode.calls a0_1 true _ A23.out).mono ?_);rintro e w' ⟨rfl,⟨nd,rfl⟩⟩))
     go_ret
     exact ⟨by first|rfl|(simp [errW_none,errW_some] <;> rfl)|(simp [*,errW_none,errW_some] <;> rfl),by repeat (first|(with_reducible first|exact HB.out|apply below_alloc|apply pw_below_drewN|apply below_drew1|refine below_set ?_ GE108.out)|exact HB.out)⟩
   ·replace c24:=Bool.eq_false_iff.mpr c24
    subst c24
    have H1:(some false)=some r:=by rw [if_neg (show ¬ (false=true) by decide)] at H;exact H
    clear H
    have H:=H1
    clear H1
    obtain rfl:=Option.some.inj H
    go_enter Tryz.func52,Tryz.ntmps52
    go_wp2_with (first|((with_reducible refine gate_dst (N:=1) rfl ?_);refine box_event ?hg (N:=1) ?hd (cs:=#[.int .i64 a0_0,.int .i64 a0_1,.int .i64 a0_2,.int .i64 a0_3]) (t:=45) ?hr ?_;(case hd=>rfl);(case hg=>rfl);(case hr=>first|(go_simp;done)|(go_simp;rfl));intro gb108 hg w33 hbox hb;have n0_:=aK (below_step (by repeat (first|(with_reducible first|exact HB.out|apply below_alloc|apply pw_below_drewN|apply below_drew1)|exact HB.out)) hb);have n1_:=aK (hbox);have n2_:=aK ((by rw [hg];exact (below_size (by repeat (first|(with_reducible first|exact HB.out|apply below_alloc|apply pw_below_drewN|apply below_drew1)|exact HB.out))):w.heap.size≤gb108));have n3_:=n2_;clear HB;have HB:=n0_;have BK108:=n1_;have GW108:=n2_;have GE108:=n3_;clear n0_ n1_ n2_ n3_;clear hb hbox hg;have hcz34_0:w33.cell? ⟨gb108,0,none⟩=some (.int .i64 a0_0):=(blk_cell BK108.out 0).trans rfl;have hcz34_1:w33.cell? ⟨gb108,1,none⟩=some (.int .i64 a0_1):=(blk_cell BK108.out 1).trans rfl;have hcz34_2:w33.cell? ⟨gb108,2,none⟩=some (.int .i64 a0_2):=(blk_cell BK108.out 2).trans rfl;have hcz34_3:w33.cell? ⟨gb108,3,none⟩=some (.int .i64 a0_3):=(blk_cell BK108.out 3).trans rfl;have hfz34_0:=blk_frozen BK108.out 0;have hfz34_1:=blk_frozen BK108.out 1;have hfz34_2:=blk_frozen BK108.out 2;have hfz34_3:=blk_frozen BK108.out 3)|((with_reducible refine gate_callee (f:=84) rfl ?_);refine goesL_ (some 6) rfl rfl Tryz.func84 (by kernel_rfl) rfl #[.int .i64 a0_3] rfl (by (try simp only [List.map_toArray,List.map_cons,List.map_nil]);first|done|rfl|(simp only [List.length_drop,List.length_take];rfl)) ?_;(with_reducible refine (metric_isCode.calls a0_3 t109 _ A2.out).mono ?_);rintro e w' ⟨rfl,⟨nd,rfl⟩⟩;refine ⟨_,rfl,?_⟩)|((with_reducible refine gate_callee (f:=84) rfl ?_);refine goesL_ (some 15) rfl rfl Tryz.func84 (by kernel_rfl) rfl #[.int .i64 a0_0] rfl (by (try simp only [List.map_toArray,List.map_cons,List.map_nil]);first|done|rfl|(simp only [List.length_drop,List.length_take];rfl)) ?_;(with_reducible refine (metric_isCode.calls a0_0 true _ A21.out).mono ?_);rintro e w' ⟨rfl,⟨nd,rfl⟩⟩;refine ⟨_,rfl,?_⟩)|(go_at_call 84;(with_reducible refine (metric_isCode.calls a0_1 false _ A23.out).mono ?_);rintro e w' ⟨rfl,⟨nd,rfl⟩⟩))
    go_ret
    exact ⟨by first|rfl|(simp [errW_none,errW_some] <;> rfl)|(simp [*,errW_none,errW_some] <;> rfl),by repeat (first|(with_reducible first|exact HB.out|apply below_alloc|apply pw_below_drewN|apply below_drew1|refine below_set ?_ GE108.out)|exact HB.out)⟩
  ·replace c22:=Bool.eq_false_iff.mpr c22
   subst c22
   have H1:(some false)=some r:=by rw [if_neg (show ¬ (false=true) by decide)] at H;exact H
   clear H
   have H:=H1
   clear H1
   obtain rfl:=Option.some.inj H
   go_enter Tryz.func52,Tryz.ntmps52
   go_wp2_with (first|((with_reducible refine gate_dst (N:=1) rfl ?_);refine box_event ?hg (N:=1) ?hd (cs:=#[.int .i64 a0_0,.int .i64 a0_1,.int .i64 a0_2,.int .i64 a0_3]) (t:=45) ?hr ?_;(case hd=>rfl);(case hg=>rfl);(case hr=>first|(go_simp;done)|(go_simp;rfl));intro gb108 hg w35 hbox hb;have n0_:=aK (below_step (by repeat (first|(with_reducible first|exact HB.out|apply below_alloc|apply pw_below_drewN|apply below_drew1)|exact HB.out)) hb);have n1_:=aK (hbox);have n2_:=aK ((by rw [hg];exact (below_size (by repeat (first|(with_reducible first|exact HB.out|apply below_alloc|apply pw_below_drewN|apply below_drew1)|exact HB.out))):w.heap.size≤gb108));have n3_:=n2_;clear HB;have HB:=n0_;have BK108:=n1_;have GW108:=n2_;have GE108:=n3_;clear n0_ n1_ n2_ n3_;clear hb hbox hg;have hcz36_0:w35.cell? ⟨gb108,0,none⟩=some (.int .i64 a0_0):=(blk_cell BK108.out 0).trans rfl;have hcz36_1:w35.cell? ⟨gb108,1,none⟩=some (.int .i64 a0_1):=(blk_cell BK108.out 1).trans rfl;have hcz36_2:w35.cell? ⟨gb108,2,none⟩=some (.int .i64 a0_2):=(blk_cell BK108.out 2).trans rfl;have hcz36_3:w35.cell? ⟨gb108,3,none⟩=some (.int .i64 a0_3):=(blk_cell BK108.out 3).trans rfl;have hfz36_0:=blk_frozen BK108.out 0;have hfz36_1:=blk_frozen BK108.out 1;have hfz36_2:=blk_frozen BK108.out 2;have hfz36_3:=blk_frozen BK108.out 3)|((with_reducible refine gate_callee (f:=84) rfl ?_);refine goesL_ (some 6) rfl rfl Tryz.func84 (by kernel_rfl) rfl #[.int .i64 a0_3] rfl (by (try simp only [List.map_toArray,List.map_cons,List.map_nil]);first|done|rfl|(simp only [List.length_drop,List.length_take];rfl)) ?_;(with_reducible refine (metric_isCode.calls a0_3 t109 _ A2.out).mono ?_);rintro e w' ⟨rfl,⟨nd,rfl⟩⟩;refine ⟨_,rfl,?_⟩)|((with_reducible refine gate_callee (f:=84) rfl ?_);refine goesL_ (some 15) rfl rfl Tryz.func84 (by kernel_rfl) rfl #[.int .i64 a0_0] rfl (by (try simp only [List.map_toArray,List.map_cons,List.map_nil]);first|done|rfl|(simp only [List.length_drop,List.length_take];rfl)) ?_;(with_reducible refine (metric_isCode.calls a0_0 false _ A21.out).mono ?_);rintro e w' ⟨rfl,⟨nd,rfl⟩⟩;refine ⟨_,rfl,?_⟩))
   go_ret
   exact ⟨by first|rfl|(simp [errW_none,errW_some] <;> rfl)|(simp [*,errW_none,errW_some] <;> rfl),by repeat (first|(with_reducible first|exact HB.out|apply below_alloc|apply pw_below_drewN|apply below_drew1|refine below_set ?_ GE108.out)|exact HB.out)⟩
def cmp_Or_int.l0 : Nat → Int → List Int → Int → Int → Option (Int)
 | 0,_,_,_,_=>none
 | k+1,x3,x6,x7,x8=>if x8<x7 then (if 0≤x8 then (if x8<(x6.length:Int) then (if (rd x6 x8)=x3 then (cmp_Or_int.l0 k x3 x6 x7 (wrap64 (x8+1))) else (some (rd x6 x8))) else (none)) else (none)) else (some x3)
def cmp_Or_int.f (k:Nat) (l0:List Int):Option (Int):=cmp_Or_int.l0 k 0 l0 (l0.length:Int) 0
theorem cmp_Or_int.mono_l : ∀ k, (∀ y0 y1 y2 y3, LeO (cmp_Or_int.l0 k y0 y1 y2 y3) (cmp_Or_int.l0 (k + 1) y0 y1 y2 y3))
 | 0=>fun _ _ _ _ r h=>by simp [cmp_Or_int.l0] at h
 | k+1=>by
  have ih0:=cmp_Or_int.mono_l k
  ·intro y0 y1 y2 y3
   unfold cmp_Or_int.l0
   repeat' first
   | (with_reducible exact ih0 _ _ _ _)
   | (with_reducible exact LeO.refl _)
   | (with_reducible exact LeO.none _)
   | (with_reducible refine LeO.ite ?_ ?_)
   | (with_reducible refine LeO.bind ?_ (fun _=>?_))
   | exact ih0 _ _ _ _
   | exact LeO.none _
   | refine LeO.ite ?_ ?_
   | refine LeO.bind ?_ (fun _=>?_)
theorem cmp_Or_int.mono : ∀ a0 k,LeO (cmp_Or_int.f k a0) (cmp_Or_int.f (k+1) a0):=by
 intro a0 k
 have ih0:=cmp_Or_int.mono_l k
 unfold cmp_Or_int.f
 repeat' first
   | (with_reducible exact ih0 _ _ _ _)
   | (with_reducible exact LeO.refl _)
   | (with_reducible exact LeO.none _)
   | (with_reducible refine LeO.ite ?_ ?_)
   | (with_reducible refine LeO.bind ?_ (fun _=>?_))
   | exact ih0 _ _ _ _
   | exact LeO.none _
   | refine LeO.ite ?_ ?_
   | refine LeO.bind ?_ (fun _=>?_)
set_option maxHeartbeats 8000000 in
theorem cmp_Or_int.calls (k : Nat) (A0 : Option Addr) (c0 : Nat) (l0 : List Int) (r : Int) (w : World) (hr0 : Kd.C (Kd.int .i64) w A0 l0.length l0) (hc0 : l0.length ≤ c0) (h : cmp_Or_int.f k l0 = some r) :
  Calls Tryz.prog 94 #[.slice A0 l0.length c0] w fun e w'=>e = .returned (.int .i64 r)∧Drawn0 w w':=by
 have HR0:=aK hr0
 have HC0:=aK hc0
 clear hr0 hc0
 have H:(cmp_Or_int.l0 k 0 l0 (l0.length:Int) 0)=some r:=h
 clear h
 have H':=aK H
 clear H
 go_enter Tryz.func94,Tryz.ntmps94
 go_wp2
 go_loopg [8] k (fun kq v8 w'=>∃ (x8_1:Int),v8 = .int .i64 x8_1∧Aside0 (cmp_Or_int.l0 kq 0 l0 (l0.length:Int) x8_1=some r)∧Aside0 (kq≤k)∧Drawn0 w w')
 case atStart=>exact ⟨(0),(by first|rfl|(simp;done)|(simp [*];done)),H',⟨Nat.le_refl _⟩,by repeat (first|exact Drawn0.refl _|apply Drawn0.step)⟩
 case round =>
  clear H'
  obtain ⟨x8_1,rfl,HA,HK1,⟨m1,rfl⟩⟩:=hrel
  cases gk with
  | zero=>exact absurd HA.out (by simp [cmp_Or_int.l0])
  | succ k1 =>
   have H:=HA.out
   clear HA
   simp only [cmp_Or_int.l0] at H
   by_cases c2:x8_1<(l0.length:Int)
   ·rw [if_pos c2] at H
    have c2b0:decide (x8_1<(l0.length:Int))=true:=decide_eq_true c2
    clear c2
    by_cases c3:0≤x8_1
    ·rw [if_pos c3] at H
     have c3b0:decide (0≤x8_1)=true:=decide_eq_true c3
     clear c3
     by_cases c4:x8_1<(l0.length:Int)
     ·rw [if_pos c4] at H
      have c4b0:decide (x8_1<(l0.length:Int))=true:=decide_eq_true c4
      clear c4
      by_cases c5:(rd l0 x8_1)=0
      ·rw [if_pos c5] at H
       have c5b0:((rd l0 x8_1) == 0)=true:=beq_iff_eq.mpr c5
       have c5b1:((rd l0 x8_1) != 0)=false:=bne_eq_false_iff_eq.mpr c5
       clear c5
       have H':=aK H
       clear H
       have p115:0≤(x8_1:Int):=of_decide_eq_true (by first|(with_reducible assumption)|assumption)
       have q115:x8_1<(l0.length:Int):=of_decide_eq_true (by first|(with_reducible assumption)|assumption)
       obtain ⟨ad115,e115,hx115_0⟩:=Kd.at_int HR0.out x8_1 p115 q115
       cases e115
       replace p115:=eq_true p115
       replace q115:=eq_true q115
       go_wp2
       go_roundg k1
       case measure=>have:=HK1.out;omega
       case rel=>exact ⟨(wrap64 (x8_1+1)),(by first|rfl|(simp;done)|(simp [*];done)),H',⟨by have:=HK1.out;omega⟩,by repeat (first|exact Drawn0.refl _|apply Drawn0.step)⟩
      ·rw [if_neg c5] at H
       have c5b0:((rd l0 x8_1) == 0)=false:=beq_eq_false_iff_ne.mpr c5
       have c5b1:((rd l0 x8_1) != 0)=true:=bne_iff_ne.mpr c5
       obtain rfl:=Option.some.inj H
       have p115:0≤(x8_1:Int):=of_decide_eq_true (by first|(with_reducible assumption)|assumption)
       have q115:x8_1<(l0.length:Int):=of_decide_eq_true (by first|(with_reducible assumption)|assumption)
       obtain ⟨ad115,e115,hx115_0⟩:=Kd.at_int HR0.out x8_1 p115 q115
       cases e115
       replace p115:=eq_true p115
       replace q115:=eq_true q115
       go_wp2
       go_ret
       exact ⟨by first|rfl|(simp;done)|(simp [*];done),by repeat (first|exact Drawn0.refl _|apply Drawn0.step)⟩
     ·rw [if_neg c4] at H
      exact absurd H (by simp)
    ·rw [if_neg c3] at H
     exact absurd H (by simp)
   ·rw [if_neg c2] at H
    have c2b0:decide (x8_1<(l0.length:Int))=false:=decide_eq_false c2
    clear c2
    obtain rfl:=Option.some.inj H
    go_wp2
    go_ret
    exact ⟨by first|rfl|(simp;done)|(simp [*];done),by repeat (first|exact Drawn0.refl _|apply Drawn0.step)⟩
def cmpR (x y:S45):Int:=if cmpI x.f0 y.f0=0 then cmpI x.f1 y.f1 else cmpI x.f0 y.f0
theorem or_is (a b:Int):cmp_Or_int.f 3 [a,b]=some (if a=0 then b else a):=by
 unfold cmp_Or_int.f
 by_cases h:a=0
 ·subst h
  by_cases h':b=0
  ·subst h';simp [cmp_Or_int.l0,rd,wrap64]
  ·simp [cmp_Or_int.l0,rd,wrap64,h']
 ·simp [cmp_Or_int.l0,rd,wrap64,h]
theorem reps_nums {w:World} {base:Nat} {ok:Nat→Prop} (xs:List Int):Reps ((Kd.int .i64).M w base ok) (Kd.int .i64).sz xs (nums .i64 xs):=by
 refine ⟨by rw [nums,List.length_map];exact (Nat.mul_one _).symm,fun j p hj=>?_⟩
 obtain ⟨hx,rfl⟩:=List.getElem?_eq_some_iff.1 hj
 show ((xs.map (Value.int .i64)).drop (j*1)).take 1=[Value.int .i64 xs[j]]
 rw [Nat.mul_one,List.drop_eq_getElem_cons (by simpa using hx)]
 simp
theorem lit_C (W:World) (t:TypeId) (xs:List Int) (h:xs.length≤9223372036854775807):Kd.C (Kd.int .i64) (W.alloc (.cells (nums .i64 xs).toArray t)) (some ⟨W.heap.size,0,none⟩) xs.length xs:=by
 have hR:Kd.R (Kd.int .i64) t (W.alloc (.cells (nums .i64 xs).toArray t)) W.heap.size (fun _=>True) (.slice (some ⟨W.heap.size,0,none⟩) xs.length xs.length) xs:=⟨fun _ _=>trivial,nums .i64 xs,own_lit W W.heap.size t .i64 xs (Nat.le_refl _) h,reps_nums xs⟩
 exact (Kd.R_reads' hR).2.2
set_option maxHeartbeats 4000000 in
theorem cmpR_grows (x y:S45) (W:World):Calls Tryz.prog 55 #[.agg #[.int .i64 x.f0,.int .i64 x.f1,.int .i64 x.f2,.int .i64 x.f3],.agg #[.int .i64 y.f0,.int .i64 y.f1,.int .i64 y.f2,.int .i64 y.f3]] W fun e w'=>e = .returned (.int .i64 (cmpR x y))∧Below W.heap.size W w'∧W.drawn≤w'.drawn:=by
 have hu:=Tryz.underlying45
 have HC1:=aK (fun V=>cmp_Compare_int.calls x.f0 y.f0 _ V (cmpI_is _ _))
 have HC2:=aK (fun V=>cmp_Compare_int.calls x.f1 y.f1 _ V (cmpI_is _ _))
 have HR:Aside0 (cmpR x y=if cmpI x.f0 y.f0=0 then cmpI x.f1 y.f1 else cmpI x.f0 y.f0):=⟨rfl⟩
 generalize cmpR x y=r at *
 generalize cmpI x.f0 y.f0=v0 at *
 generalize cmpI x.f1 y.f1=v1 at *
 have HO:Aside0 (∀ V:World,Calls Tryz.prog 94 #[.slice (some ⟨V.heap.size,0,none⟩) 2 2] (V.alloc (.cells #[.int .i64 v0,.int .i64 v1] 3)) fun e w'=>e = .returned (.int .i64 r)∧Drawn0 (V.alloc (.cells #[.int .i64 v0,.int .i64 v1] 3)) w'):=⟨fun V=>cmp_Or_int.calls 3 (some ⟨V.heap.size,0,none⟩) 2 [v0,v1] r _ (lit_C V 3 [v0,v1] (by simp)) (by simp) (by rw [or_is,HR.out])⟩
 have X0:=blk_alloc (blk_new W (.cells #[.int .i64 x.f0,.int .i64 x.f1,.int .i64 x.f2,.int .i64 x.f3] 45)) (.cells #[.int .i64 y.f0,.int .i64 y.f1,.int .i64 y.f2,.int .i64 y.f3] 45)
 have Y0:=blk_new (W.alloc (.cells #[.int .i64 x.f0,.int .i64 x.f1,.int .i64 x.f2,.int .i64 x.f3] 45)) (.cells #[.int .i64 y.f0,.int .i64 y.f1,.int .i64 y.f2,.int .i64 y.f3] 45)
 simp only [World.size_alloc] at Y0
 have P0:=aK ((blk_cell (blk_drew X0) 0).trans rfl)
 have P1:=aK ((blk_cell (blk_drew X0) 1).trans rfl)
 have P2:=aK ((blk_cell (blk_drew Y0) 0).trans rfl)
 have P3:=aK ((blk_cell (blk_drew Y0) 1).trans rfl)
 clear X0 Y0 HR
 go_enter Tryz.func55,Tryz.ntmps55
 go_wp2
 generalize hV:(W.alloc (.cells #[.int .i64 x.f0,.int .i64 x.f1,.int .i64 x.f2,.int .i64 x.f3] 45)).alloc (.cells #[.int .i64 y.f0,.int .i64 y.f1,.int .i64 y.f2,.int .i64 y.f3] 45)=V at *
 refine start_ (n:=13) (S:=fun w'=>w'.cell? ⟨W.heap.size,0,none⟩=some (.int .i64 x.f0)∧w'.cell? ⟨W.heap.size,1,none⟩=some (.int .i64 x.f1)∧w'.cell? ⟨W.heap.size+1,0,none⟩=some (.int .i64 y.f0)∧w'.cell? ⟨W.heap.size+1,1,none⟩=some (.int .i64 y.f1)) (ds:=[10,11]) #[false,false,false,false,false,false,false,false,false,false,false,false,false] (by kernel_rfl) rfl rfl ⟨P0.out,P1.out,P2.out,P3.out⟩ (fun hHeld=>?_)
 refine pu 0 (some 5) ?_ rfl rfl (by kernel_rfl) (fun _ _ _ h=>h) (.inl ⟨by rfl,?_⟩) ?_ ?_ ?_;rotate_left;intro w';go_simp;with_reducible rfl;rotate_left;simp only [nS];rfl
 refine pu 2 (some 7) ?_ rfl rfl (by kernel_rfl) (fun _ _ _ h=>h) (.inl ⟨by rfl,?_⟩) ?_ ?_ ?_;rotate_left;intro w';go_simp;with_reducible rfl;rotate_left;simp only [nS];rfl
 refine pu 5 (some 10) ?_ rfl rfl (by kernel_rfl) (fun _ _ _ h=>h) (.inl ⟨by rfl,?_⟩) ?_ ?_ ?_;rotate_left;intro w';go_simp;with_reducible rfl;rotate_left;simp only [nS];rfl
 refine pu 7 (some 12) ?_ rfl rfl (by kernel_rfl) (fun _ _ _ h=>h) (.inl ⟨by rfl,?_⟩) ?_ ?_ ?_;rotate_left;intro w';go_simp;with_reducible rfl;rotate_left;simp only [nS];rfl
 refine tk 1 (some 6) ?_ rfl rfl (by kernel_rfl) (fun _ _ _ h=>h) (.inl ⟨by rfl,?_⟩) hHeld ?_ ?_ ?_;rotate_left;rintro w' ⟨s0,s1,s2,s3⟩;go_simp;with_reducible rfl;rotate_left;simp only [nS];rfl
 refine tk 3 (some 8) ?_ rfl rfl (by kernel_rfl) (fun _ _ _ h=>h) (.inl ⟨by rfl,?_⟩) hHeld ?_ ?_ ?_;rotate_left;rintro w' ⟨s0,s1,s2,s3⟩;go_simp;with_reducible rfl;rotate_left;simp only [nS];rfl
 refine tk 6 (some 11) ?_ rfl rfl (by kernel_rfl) (fun _ _ _ h=>h) (.inl ⟨by rfl,?_⟩) hHeld ?_ ?_ ?_;rotate_left;rintro w' ⟨s0,s1,s2,s3⟩;go_simp;with_reducible rfl;rotate_left;simp only [nS];rfl
 refine tk 8 (some 13) ?_ rfl rfl (by kernel_rfl) (fun _ _ _ h=>h) (.inl ⟨by rfl,?_⟩) hHeld ?_ ?_ ?_;rotate_left;rintro w' ⟨s0,s1,s2,s3⟩;go_simp;with_reducible rfl;rotate_left;simp only [nS];rfl
 refine one_ (i:=4) (N:=some 9) #[true,true,true,true,true,true,true,true,true,false,false,false,false] rfl rfl (by kernel_rfl) (by decide) (fun K hK=>?_)
 refine goes_ Tryz.func86 (by kernel_rfl) rfl #[.int .i64 x.f0,.int .i64 y.f0] (by rfl) rfl rfl (by simp only [List.map_toArray,List.map_cons,List.map_nil];rfl) ?_
 refine (HC1.out _).mono ?_
 rintro e w3_n1 ⟨rfl,⟨n1,rfl⟩⟩
 refine ⟨_,rfl,?_⟩
 refine hK.out _ _ ⟨hHeld.1,hHeld.2.1,hHeld.2.2.1,hHeld.2.2.2⟩ (fun hHeld=>?_)
 clear hK K
 refine norm_ (a':=?_) ?_ ?_;rotate_left;show Act.put _ (some 9) _=_;simp only [nS];rfl
 refine one_ (i:=9) (N:=some 14) #[true,true,true,true,true,true,true,true,true,true,false,false,false] rfl rfl (by kernel_rfl) (by decide) (fun K hK=>?_)
 refine goes_ Tryz.func86 (by kernel_rfl) rfl #[.int .i64 x.f1,.int .i64 y.f1] (by rfl) rfl rfl (by simp only [List.map_toArray,List.map_cons,List.map_nil];rfl) ?_
 refine (HC2.out _).mono ?_
 rintro e w3_n2 ⟨rfl,⟨n2,rfl⟩⟩
 refine ⟨_,rfl,?_⟩
 refine hK.out _ _ ⟨hHeld.1,hHeld.2.1,hHeld.2.2.1,hHeld.2.2.2⟩ (fun hHeld=>?_)
 clear hK K
 refine norm_ (a':=?_) ?_ ?_;rotate_left;show Act.put _ (some 14) _=_;simp only [nS];rfl
 refine last_ (i:=10) (N:=some 15) #[true,true,true,true,true,true,true,true,true,true,true,false,false] rfl rfl (by kernel_rfl) (by decide) (fun K hK=>?_)
 refine value_ (w1:=?_) (v:=?_) (by rfl) rfl ?_ ?_
 rotate_left 2
 ·go_simp
  constructor
  ·rfl
  ·rfl
 refine hK.out _ _ ?_
 clear hK K
 refine norm_ (a':=?_) ?_ ?_;rotate_left;show Act.put _ (some 15) _=_;simp only [nS];rfl
 refine last_ (i:=11) (N:=some 16) #[true,true,true,true,true,true,true,true,true,true,true,true,false] rfl rfl (by kernel_rfl) (by decide) (fun K hK=>?_)
 refine goes_ Tryz.func94 (by kernel_rfl) rfl #[.slice (some ⟨V.heap.size,0,none⟩) 2 2] (by rfl) rfl rfl (by simp only [List.map_toArray,List.map_cons,List.map_nil];rfl) ?_
 refine (HO.out _).mono ?_
 rintro e w9 ⟨rfl,⟨n3,rfl⟩⟩
 refine ⟨_,rfl,?_⟩
 refine hK.out _ _ ?_
 clear hK K
 refine norm_ (a':=?_) ?_ ?_;rotate_left;show Act.put _ (some 16) _=_;simp only [nS];rfl
 refine pu 12 (some 4) ?_ rfl rfl (by kernel_rfl) (fun _ _ _ h=>h) (.inl ⟨by rfl,?_⟩) ?_ ?_ ?_;rotate_left;intro w';go_simp;with_reducible rfl;rotate_left;simp only [nS];rfl
 refine done_ (by kernel_rfl) ?_
 go_wp2
 go_ret
 refine ⟨rfl,?_,?_⟩
 ·subst hV
  exact pw_below_drewN (below_alloc (pw_below_drewN (below_alloc (below_alloc (Below.refl W.heap.size W) _) _) _) _) _
 ·subst hV
  show W.drawn≤W.drawn+(1+n1+n2)+n3
  omega
theorem cmpR_calls (W:World) (x y:S45):Calls Tryz.prog 55 #[.agg #[.int .i64 x.f0,.int .i64 x.f1,.int .i64 x.f2,.int .i64 x.f3],.agg #[.int .i64 y.f0,.int .i64 y.f1,.int .i64 y.f2,.int .i64 y.f3]] W fun e w'=>e = .returned (.int .i64 (cmpR x y))∧Below W.heap.size W w':=(cmpR_grows x y W).mono fun _ _ h=>⟨h.1,h.2.1⟩
set_option maxHeartbeats 4000000 in
theorem rising_prsR (g : Nat) (cf : S45 → S45 → Int) (eg : ∀ args w, (callFunc g args).run Tryz.prog w = .ok (.enter g args) w) (A0 : Option Addr) (c0 : Nat) (l0 : List S45) (w : World)
  (hp : ∀ (W:World) (x y:S45),Calls Tryz.prog g #[.agg #[.int .i64 x.f0,.int .i64 x.f1,.int .i64 x.f2,.int .i64 x.f3],.agg #[.int .i64 y.f0,.int .i64 y.f1,.int .i64 y.f2,.int .i64 y.f3]] W fun e w'=>e = .returned (.int .i64 (cf x y))∧Below W.heap.size W w')
  (hr0:Kd.C k45 w A0 l0.length l0) (hlen:l0.length≤1000000000000) :
  Calls Tryz.prog 87 #[.slice A0 l0.length c0,.func (.func g) #[] #[]] w fun e w'=>e = .returned (.bool (chainB (fun x y=>decide (cf x y<0)) l0))∧Below w.heap.size w w':=by
 have hu:=Tryz.underlying45
 have HR0:=aK hr0
 have HP:=aK hp
 have HL:=aK hlen
 clear hr0 hp hlen
 have HB:=aK (Below.refl w.heap.size w)
 generalize hT:(fun (x y:S45)=>decide (cf x y<0))=ok
 have HT:=aK hT
 clear hT
 go_enter Tryz.func87,Tryz.ntmps87
 go_wp2
 go_loopg [5] l0.length (fun gg s5 wr=>∃ j kk:Nat,Aside0 (kk=j+1)∧l0.length-kk≤gg∧s5 = .int .i64 kk∧Aside0 (kk≤l0.length+1)∧Aside0 (chainB ok l0=chainB ok (l0.drop j))∧Aside0 (Below w.heap.size w wr))
 case atStart=>exact ⟨0,1,⟨rfl⟩,by omega,rfl,⟨by omega⟩,⟨rfl⟩,HB⟩
 case round =>
  obtain ⟨j,kk,HK,hg,rfl,HKL,HI,HB⟩:=hrel
  by_cases hlt:kk<l0.length
  ·have hlti:(kk:Int)<(l0.length:Int):=by omega
   have hk0:0≤(kk:Int):=by omega
   have hltj:(j:Int)<(l0.length:Int):=by have:=HK.out;omega
   have hj0:0≤(j:Int):=by omega
   have hwj:wrap64 ((kk:Int)-1)=(j:Int):=by have:=HK.out;have:=HL.out;unfold wrap64;omega
   obtain ⟨ad,rfl,hx0,hx1,hx2,hx3⟩:=at_T45 HR0.out (j:Int) (by omega) hltj
   obtain ⟨ad',e',hy0,hy1,hy2,hy3⟩:=at_T45 HR0.out (kk:Int) (by omega) hlti
   obtain rfl:ad=ad':=by injection e'
   simp only [Int.toNat_natCast] at hx0 hx1 hx2 hx3 hy0 hy1 hy2 hy3
   have hI:=HI.out
   rw [rd_dropR l0 j (by omega),rd_dropR l0 (j+1) (by have:=HK.out;omega)] at hI
   have hI2:chainB ok l0=(ok (rd_T45 l0 (j:Int)) (rd_T45 l0 (kk:Int)) && chainB ok (l0.drop (j+1))):=by
    have hk:=HK.out
    subst hk
    rw [hI]
    show (_ && chainB ok (_::_))=_
    rw [← rd_dropR l0 (j+1) hlt]
   have HI2:=aK hI2
   clear hI hI2 HI
   generalize rd_T45 l0 (kk:Int)=y at *
   generalize rd_T45 l0 (j:Int)=x at *
   have P0:=aK (show wr.drew.cell? (ad.add (j*4))=some (.int .i64 x.f0) from (HB.out.cell (World.block_lt_of_cell? w _ hx0)).trans hx0)
   have P1:=aK (show wr.drew.cell? ⟨(ad.add (j*4)).block,(ad.add (j*4)).off+1,none⟩=some (.int .i64 x.f1) from (HB.out.cell (World.block_lt_of_cell? w _ hx1)).trans hx1)
   have P2:=aK (show wr.drew.cell? ⟨(ad.add (j*4)).block,(ad.add (j*4)).off+2,none⟩=some (.int .i64 x.f2) from (HB.out.cell (World.block_lt_of_cell? w _ hx2)).trans hx2)
   have P3:=aK (show wr.drew.cell? ⟨(ad.add (j*4)).block,(ad.add (j*4)).off+3,none⟩=some (.int .i64 x.f3) from (HB.out.cell (World.block_lt_of_cell? w _ hx3)).trans hx3)
   have P4:=aK (show wr.drew.cell? (ad.add (kk*4))=some (.int .i64 y.f0) from (HB.out.cell (World.block_lt_of_cell? w _ hy0)).trans hy0)
   have P5:=aK (show wr.drew.cell? ⟨(ad.add (kk*4)).block,(ad.add (kk*4)).off+1,none⟩=some (.int .i64 y.f1) from (HB.out.cell (World.block_lt_of_cell? w _ hy1)).trans hy1)
   have P6:=aK (show wr.drew.cell? ⟨(ad.add (kk*4)).block,(ad.add (kk*4)).off+2,none⟩=some (.int .i64 y.f2) from (HB.out.cell (World.block_lt_of_cell? w _ hy2)).trans hy2)
   have P7:=aK (show wr.drew.cell? ⟨(ad.add (kk*4)).block,(ad.add (kk*4)).off+3,none⟩=some (.int .i64 y.f3) from (HB.out.cell (World.block_lt_of_cell? w _ hy3)).trans hy3)
   have hcall:=HP.out wr.drew x y
   have hokxy:ok x y=(decide (cf x y<0)):=by rw [← HT.out]
   generalize hv:cf x y=v at *
   have HCALL:=aK hcall
   have HSTEP:=aK (show wrap64 ((kk:Int)+1)=((kk+1:Nat):Int) by have:=HL.out;unfold wrap64;omega)
   clear hx0 hx1 hx2 hx3 hy0 hy1 hy2 hy3 hcall hv e'
   cases hob:ok x y with
   | true =>
    have HOK:Aside0 ((decide (v<0))=true):=⟨by rw [← hokxy];exact hob⟩
    have HI3:Aside0 (chainB ok l0=chainB ok (l0.drop (j+1))):=⟨by rw [HI2.out,hob];rfl⟩
    clear hokxy HI2 hob
    have HV2:Aside0 (v<0):=⟨by have:=HOK.out;simpa using this⟩
    have hvb:decide (v≥0)=false:=decide_eq_false (by have:=HV2.out;omega)
    have hvc:decide (0≤v)=false:=hvb
    go_wp2
    refine start_ (n:=12) (S:=fun w'=>w'.cell? (ad.add (j*4))=some (.int .i64 x.f0)∧w'.cell? ⟨(ad.add (j*4)).block,(ad.add (j*4)).off+1,none⟩=some (.int .i64 x.f1)∧w'.cell? ⟨(ad.add (j*4)).block,(ad.add (j*4)).off+2,none⟩=some (.int .i64 x.f2)∧w'.cell? ⟨(ad.add (j*4)).block,(ad.add (j*4)).off+3,none⟩=some (.int .i64 x.f3)∧w'.cell? (ad.add (kk*4))=some (.int .i64 y.f0)∧w'.cell? ⟨(ad.add (kk*4)).block,(ad.add (kk*4)).off+1,none⟩=some (.int .i64 y.f1)∧w'.cell? ⟨(ad.add (kk*4)).block,(ad.add (kk*4)).off+2,none⟩=some (.int .i64 y.f2)∧w'.cell? ⟨(ad.add (kk*4)).block,(ad.add (kk*4)).off+3,none⟩=some (.int .i64 y.f3)) (ds:=[10]) #[false,false,false,false,false,false,false,false,false,false,false,false] (by kernel_rfl) rfl rfl ⟨P0.out,P1.out,P2.out,P3.out,P4.out,P5.out,P6.out,P7.out⟩ (fun hHeld=>?_)
    refine pu 0 (some 12) ?_ rfl rfl (by kernel_rfl) (fun _ _ _ h=>h) (.inl ⟨by rfl,?_⟩) ?_ ?_ ?_;rotate_left;intro w';go_simp;with_reducible rfl;rotate_left;simp only [nS];rfl
    refine pu 1 (some 13) ?_ rfl rfl (by kernel_rfl) (fun _ _ _ h=>h) (.inl ⟨by rfl,?_⟩) ?_ ?_ ?_;rotate_left;intro w';go_simp;with_reducible rfl;rotate_left;simp only [nS];rfl
    refine pu 2 (some 14) ?_ rfl rfl (by kernel_rfl) (fun _ _ _ h=>h) (.inl ⟨by rfl,?_⟩) ?_ ?_ ?_;rotate_left;intro w';go_simp;with_reducible rfl;rotate_left;simp only [nS];rfl
    refine pu 3 (some 15) ?_ rfl rfl (by kernel_rfl) (fun _ _ _ h=>h) (.inl ⟨by rfl,?_⟩) ?_ ?_ ?_;rotate_left;intro w';go_simp;with_reducible rfl;rotate_left;simp only [nS];rfl
    refine pu 4 (some 16) ?_ rfl rfl (by kernel_rfl) (fun _ _ _ h=>h) (.inl ⟨by rfl,?_⟩) ?_ ?_ ?_;rotate_left;intro w';go_simp;with_reducible rfl;rotate_left;simp only [nS];rfl
    refine pu 6 (some 18) ?_ rfl rfl (by kernel_rfl) (fun _ _ _ h=>h) (.inl ⟨by rfl,?_⟩) ?_ ?_ ?_;rotate_left;intro w';go_simp;with_reducible rfl;rotate_left;simp only [nS];rfl
    refine pu 7 (some 19) ?_ rfl rfl (by kernel_rfl) (fun _ _ _ h=>h) (.inl ⟨by rfl,?_⟩) ?_ ?_ ?_;rotate_left;intro w';go_simp;with_reducible rfl;rotate_left;simp only [nS];rfl
    refine pu 8 (some 20) ?_ rfl rfl (by kernel_rfl) (fun _ _ _ h=>h) (.inl ⟨by rfl,?_⟩) ?_ ?_ ?_;rotate_left;intro w';go_simp;with_reducible rfl;rotate_left;simp only [nS];rfl
    refine tk 5 (some 17) ?_ rfl rfl (by kernel_rfl) (fun _ _ _ h=>h) (.inl ⟨by rfl,?_⟩) hHeld ?_ ?_ ?_;rotate_left;rintro w' ⟨s0,s1,s2,s3,s4,s5,s6,s7⟩;go_simp;with_reducible rfl;rotate_left;simp only [nS];rfl
    refine tk 9 (some 21) ?_ rfl rfl (by kernel_rfl) (fun _ _ _ h=>h) (.inl ⟨by rfl,?_⟩) hHeld ?_ ?_ ?_;rotate_left;rintro w' ⟨s0,s1,s2,s3,s4,s5,s6,s7⟩;go_simp;with_reducible rfl;rotate_left;simp only [nS];rfl
    refine last_ (i:=10) (N:=some 22) #[true,true,true,true,true,true,true,true,true,true,true,false] rfl rfl (by kernel_rfl) (by decide) (fun K hK=>?_)
    refine goesv_ #[] #[.agg #[.int .i64 x.f0,.int .i64 x.f1,.int .i64 x.f2,.int .i64 x.f3],.agg #[.int .i64 y.f0,.int .i64 y.f1,.int .i64 y.f2,.int .i64 y.f3]] eg (by rfl) rfl rfl (by rfl) (by simp only [List.map_toArray,List.map_cons,List.map_nil];rfl) ?_
    refine HCALL.out.mono ?_
    rintro e w3 ⟨rfl,hk3⟩
    refine ⟨_,rfl,?_⟩
    refine hK.out _ _ ?_
    clear hK K
    refine norm_ (a':=?_) ?_ ?_;rotate_left;show Act.put _ (some 22) _=_;simp only [nS];rfl
    refine pu 11 (some 23) ?_ rfl rfl (by kernel_rfl) (fun _ _ _ h=>h) (.inl ⟨by rfl,?_⟩) ?_ ?_ ?_;rotate_left;intro w';go_simp;with_reducible rfl;rotate_left;simp only [nS];rfl
    refine done_ (by kernel_rfl) ?_
    have HB3:=aK (below_step (below_drew1 HB.out) hk3)
    clear hk3
    go_wp2
    go_roundg (l0.length-(kk+1))
    case measure=>omega
    case rel=>exact ⟨j+1,kk+1,⟨by rw [HK.out]⟩,by omega,congrArg (Value.int .i64) HSTEP.out,⟨by omega⟩,HI3,HB3⟩
   | false =>
    have HOK:Aside0 ((decide (v<0))=false):=⟨by rw [← hokxy];exact hob⟩
    have HI3:Aside0 (chainB ok l0=false):=⟨by rw [HI2.out,hob];rfl⟩
    clear hokxy HI2 hob
    have HV2:Aside0 (0≤v):=⟨by have:=HOK.out;simp only [decide_eq_false_iff_not] at this;omega⟩
    have hvb:decide (v≥0)=true:=decide_eq_true (by have:=HV2.out;omega)
    have hvc:decide (0≤v)=true:=hvb
    go_wp2
    refine start_ (n:=12) (S:=fun w'=>w'.cell? (ad.add (j*4))=some (.int .i64 x.f0)∧w'.cell? ⟨(ad.add (j*4)).block,(ad.add (j*4)).off+1,none⟩=some (.int .i64 x.f1)∧w'.cell? ⟨(ad.add (j*4)).block,(ad.add (j*4)).off+2,none⟩=some (.int .i64 x.f2)∧w'.cell? ⟨(ad.add (j*4)).block,(ad.add (j*4)).off+3,none⟩=some (.int .i64 x.f3)∧w'.cell? (ad.add (kk*4))=some (.int .i64 y.f0)∧w'.cell? ⟨(ad.add (kk*4)).block,(ad.add (kk*4)).off+1,none⟩=some (.int .i64 y.f1)∧w'.cell? ⟨(ad.add (kk*4)).block,(ad.add (kk*4)).off+2,none⟩=some (.int .i64 y.f2)∧w'.cell? ⟨(ad.add (kk*4)).block,(ad.add (kk*4)).off+3,none⟩=some (.int .i64 y.f3)) (ds:=[10]) #[false,false,false,false,false,false,false,false,false,false,false,false] (by kernel_rfl) rfl rfl ⟨P0.out,P1.out,P2.out,P3.out,P4.out,P5.out,P6.out,P7.out⟩ (fun hHeld=>?_)
    refine pu 0 (some 12) ?_ rfl rfl (by kernel_rfl) (fun _ _ _ h=>h) (.inl ⟨by rfl,?_⟩) ?_ ?_ ?_;rotate_left;intro w';go_simp;with_reducible rfl;rotate_left;simp only [nS];rfl
    refine pu 1 (some 13) ?_ rfl rfl (by kernel_rfl) (fun _ _ _ h=>h) (.inl ⟨by rfl,?_⟩) ?_ ?_ ?_;rotate_left;intro w';go_simp;with_reducible rfl;rotate_left;simp only [nS];rfl
    refine pu 2 (some 14) ?_ rfl rfl (by kernel_rfl) (fun _ _ _ h=>h) (.inl ⟨by rfl,?_⟩) ?_ ?_ ?_;rotate_left;intro w';go_simp;with_reducible rfl;rotate_left;simp only [nS];rfl
    refine pu 3 (some 15) ?_ rfl rfl (by kernel_rfl) (fun _ _ _ h=>h) (.inl ⟨by rfl,?_⟩) ?_ ?_ ?_;rotate_left;intro w';go_simp;with_reducible rfl;rotate_left;simp only [nS];rfl
    refine pu 4 (some 16) ?_ rfl rfl (by kernel_rfl) (fun _ _ _ h=>h) (.inl ⟨by rfl,?_⟩) ?_ ?_ ?_;rotate_left;intro w';go_simp;with_reducible rfl;rotate_left;simp only [nS];rfl
    refine pu 6 (some 18) ?_ rfl rfl (by kernel_rfl) (fun _ _ _ h=>h) (.inl ⟨by rfl,?_⟩) ?_ ?_ ?_;rotate_left;intro w';go_simp;with_reducible rfl;rotate_left;simp only [nS];rfl
    refine pu 7 (some 19) ?_ rfl rfl (by kernel_rfl) (fun _ _ _ h=>h) (.inl ⟨by rfl,?_⟩) ?_ ?_ ?_;rotate_left;intro w';go_simp;with_reducible rfl;rotate_left;simp only [nS];rfl
    refine pu 8 (some 20) ?_ rfl rfl (by kernel_rfl) (fun _ _ _ h=>h) (.inl ⟨by rfl,?_⟩) ?_ ?_ ?_;rotate_left;intro w';go_simp;with_reducible rfl;rotate_left;simp only [nS];rfl
    refine tk 5 (some 17) ?_ rfl rfl (by kernel_rfl) (fun _ _ _ h=>h) (.inl ⟨by rfl,?_⟩) hHeld ?_ ?_ ?_;rotate_left;rintro w' ⟨s0,s1,s2,s3,s4,s5,s6,s7⟩;go_simp;with_reducible rfl;rotate_left;simp only [nS];rfl
    refine tk 9 (some 21) ?_ rfl rfl (by kernel_rfl) (fun _ _ _ h=>h) (.inl ⟨by rfl,?_⟩) hHeld ?_ ?_ ?_;rotate_left;rintro w' ⟨s0,s1,s2,s3,s4,s5,s6,s7⟩;go_simp;with_reducible rfl;rotate_left;simp only [nS];rfl
    refine last_ (i:=10) (N:=some 22) #[true,true,true,true,true,true,true,true,true,true,true,false] rfl rfl (by kernel_rfl) (by decide) (fun K hK=>?_)
    refine goesv_ #[] #[.agg #[.int .i64 x.f0,.int .i64 x.f1,.int .i64 x.f2,.int .i64 x.f3],.agg #[.int .i64 y.f0,.int .i64 y.f1,.int .i64 y.f2,.int .i64 y.f3]] eg (by rfl) rfl rfl (by rfl) (by simp only [List.map_toArray,List.map_cons,List.map_nil];rfl) ?_
    refine HCALL.out.mono ?_
    rintro e w3 ⟨rfl,hk3⟩
    refine ⟨_,rfl,?_⟩
    refine hK.out _ _ ?_
    clear hK K
    refine norm_ (a':=?_) ?_ ?_;rotate_left;show Act.put _ (some 22) _=_;simp only [nS];rfl
    refine pu 11 (some 23) ?_ rfl rfl (by kernel_rfl) (fun _ _ _ h=>h) (.inl ⟨by rfl,?_⟩) ?_ ?_ ?_;rotate_left;intro w';go_simp;with_reducible rfl;rotate_left;simp only [nS];rfl
    refine done_ (by kernel_rfl) ?_
    have HB3:=aK (below_step (below_drew1 HB.out) hk3)
    clear hk3
    go_wp2
    go_ret
    exact ⟨by rw [HI3.out];rfl,HB3.out⟩
  ·have hlti : ¬ (kk:Int)<(l0.length:Int):=by omega
   have HI3:Aside0 (chainB ok l0=true):=⟨by rw [HI.out];exact chainB_short _ (by have:=HK.out;simp;omega)⟩
   clear HI
   go_wp2
   go_ret
   exact ⟨by rw [HI3.out];rfl,HB.out⟩
def codeB (n:Int):Bool:=decide (0≤n) && decide (n≤255)
def coordB (n:Int):Bool:=decide (-268435455≤n) && decide (n≤268435455)
def okC (x:S50):Bool:=codeB x.f0 && coordB x.f1 && coordB x.f2 && coordB x.f3
def okR (x:S45):Bool:=(if x.f2=0 then coordB x.f3 else codeB x.f3) && codeB x.f0 && codeB x.f1 && decide (0≤x.f2) && decide (x.f2≤4)
theorem isCode_is (n:Int):metric_isCode.f n=some (codeB n):=by
 unfold metric_isCode.f codeB
 by_cases h:n≥0
 ·rw [if_pos h,decide_eq_true (show 0≤n from h)];rfl
 ·rw [if_neg h,decide_eq_false (show ¬ 0≤n from h)];rfl
theorem isCoord_is (n:Int):metric_isCoord.f n=some (coordB n):=by
 unfold metric_isCoord.f coordB
 by_cases h:n≥-268435455
 ·rw [if_pos h,decide_eq_true (show -268435455≤n from h)];rfl
 ·rw [if_neg h,decide_eq_false (show ¬ -268435455≤n from h)];rfl
theorem isChar_is (x:S50):metric_isChar.f x.f0 x.f1 x.f2 x.f3=some (okC x):=by
 unfold metric_isChar.f okC
 simp only [isCode_is,isCoord_is,Option.bind_some]
 cases codeB x.f0 <;> cases coordB x.f1 <;> cases coordB x.f2 <;> cases coordB x.f3 <;> rfl
theorem isRule_is (x:S45):metric_isRule.f x.f0 x.f1 x.f2 x.f3=some (okR x):=by
 unfold metric_isRule.f okR
 simp only [isCode_is,isCoord_is,Option.bind_some]
 by_cases h0:x.f2=0
 ·rw [if_pos h0,if_pos h0,h0]
  cases codeB x.f0 <;> cases codeB x.f1 <;> cases coordB x.f3 <;> rfl
 ·rw [if_neg h0,if_neg h0]
  by_cases h1:0≤x.f2
  ·by_cases h2:x.f2≤4
   ·cases codeB x.f0 <;> cases codeB x.f1 <;> cases codeB x.f3 <;> simp [h1,h2]
   ·cases codeB x.f0 <;> cases codeB x.f1 <;> cases codeB x.f3 <;> simp [h1,h2]
  ·cases codeB x.f0 <;> cases codeB x.f1 <;> cases codeB x.f3 <;> simp [h1]
def lessC (x y:S50):Bool:=decide (cmpC x y<0)
def lessR (x y:S45):Bool:=decide (cmpR x y<0)
def validR (rs:List S45):Bool:=decide (rs.length≤500) && (rs.all okR && chainB lessR rs)
theorem allC_calls (A:Option Addr) (c:Nat) (l:List S50) (w:World) (hr:Kd.C k50 w A l.length l) (hl:l.length≤1000000000000):Calls Tryz.prog 33 #[.slice A l.length c,.func (.func 34) #[] #[]] w fun e w'=>e = .returned (.bool (l.all okC))∧Below w.heap.size w w' :=
 all_prsC 34 okC (enters_own Tryz.func34 (by kernel_rfl) rfl) A c l w (fun W x=>metric_isChar.calls _ _ _ _ _ W (isChar_is x)) hr (by omega)
theorem allR_calls (A:Option Addr) (c:Nat) (l:List S45) (w:World) (hr:Kd.C k45 w A l.length l) (hl:l.length≤1000000000000):Calls Tryz.prog 51 #[.slice A l.length c,.func (.func 52) #[] #[]] w fun e w'=>e = .returned (.bool (l.all okR))∧Below w.heap.size w w' :=
 all_prsR 52 okR (enters_own Tryz.func52 (by kernel_rfl) rfl) A c l w (fun W x=>metric_isRule.calls _ _ _ _ _ W (isRule_is x)) hr (by omega)
theorem risingC_calls (A:Option Addr) (c:Nat) (l:List S50) (w:World) (hr:Kd.C k50 w A l.length l) (hl:l.length≤1000000000000):Calls Tryz.prog 35 #[.slice A l.length c,.func (.func 36) #[] #[]] w fun e w'=>e = .returned (.bool (chainB lessC l))∧Below w.heap.size w w' :=
 rising_prsC 36 cmpC (enters_own Tryz.func36 (by kernel_rfl) rfl) A c l w (fun W x y=>cmpC_calls W x y) hr hl
theorem risingR_calls (A:Option Addr) (c:Nat) (l:List S45) (w:World) (hr:Kd.C k45 w A l.length l) (hl:l.length≤1000000000000):Calls Tryz.prog 87 #[.slice A l.length c,.func (.func 55) #[] #[]] w fun e w'=>e = .returned (.bool (chainB lessR l))∧Below w.heap.size w w' :=
 rising_prsR 55 cmpR (enters_own Tryz.func55 (by kernel_rfl) rfl) A c l w (fun W x y=>cmpR_calls W x y) hr hl
set_option maxHeartbeats 4000000 in
theorem validRules_calls (A:Option Addr) (c:Nat) (l:List S45) (w:World) (hr:Kd.C k45 w A l.length l) (hl:l.length≤1000000000000):Calls Tryz.prog 37 #[.slice A l.length c] w fun e w'=>e = .returned (.bool (validR l))∧Below w.heap.size w w':=by
 have HA:=aK (allR_calls A c l w hr hl)
 have HR:=aK (fun V (h:Kd.C k45 V A l.length l)=>risingR_calls A c l V h hl)
 have HC:=aK hr
 have HV:Aside0 (validR l=(decide (l.length≤500) && (l.all okR && chainB lessR l))):=⟨rfl⟩
 generalize validR l=r at *
 clear hr
 by_cases h5:l.length≤500
 ·have h5i:(l.length:Int)≤500:=by omega
  have h5b:decide ((l.length:Int)≤500)=true:=decide_eq_true h5i
  rw [decide_eq_true h5,Bool.true_and] at HV
  cases hq:l.all okR with
  | false =>
   rw [hq] at HA HV
   rw [Bool.false_and] at HV
   clear hq
   go_enter Tryz.func37,Tryz.ntmps37
   go_wp2_with fail
   refine HA.out.mono ?_
   rintro e W1 ⟨rfl,hb1⟩
   go_wp2
   go_ret
   exact ⟨by rw [HV.out];rfl,hb1⟩
  | true =>
   rw [hq] at HA HV
   rw [Bool.true_and] at HV
   clear hq
   go_enter Tryz.func37,Tryz.ntmps37
   go_wp2_with fail
   refine HA.out.mono ?_
   rintro e W1 ⟨rfl,hb1⟩
   go_wp2_with fail
   refine (HR.out _ (Kd.C_below HC.out hb1)).mono ?_
   rintro e W2 ⟨rfl,hb2⟩
   have HB:=aK (below_step hb1 hb2)
   generalize chainB lessR l=q at *
   clear hb1 hb2
   go_wp2
   go_ret
   exact ⟨by rw [HV.out];first|rfl|(cases q <;> rfl),HB.out⟩
 ·have h5i : ¬ (l.length:Int)≤500:=by omega
  have h5b:decide ((l.length:Int)≤500)=false:=decide_eq_false h5i
  rw [decide_eq_false h5,Bool.false_and] at HV
  go_enter Tryz.func37,Tryz.ntmps37
  go_wp2
  go_ret
  exact ⟨by rw [HV.out];rfl,Below.refl _ _⟩
end Go.Proofs.YtoemkemmiikhlaaGreat.PF3
