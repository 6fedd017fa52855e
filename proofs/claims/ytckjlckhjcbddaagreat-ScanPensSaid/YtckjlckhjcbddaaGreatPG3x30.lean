import Derived.Test.YtckjlckhjcbddaaGreatPG3x0
import Derived.Test.YtckjlckhjcbddaaGreatPG3x4
import Derived.Test.YtckjlckhjcbddaaGreatPG3x29
set_option maxRecDepth 100000
namespace Go.Proofs.YtckjlckhjcbddaaGreat.PG3
open Go.RowKit Go.Proofs.YtckjlckhjcbddaaGreatW.PrintWords Go.Proofs.YtckjlckhjcbddaaGreatW.PrintLast Go.Proofs.YtckjlckhjcbddaaGreatW.PrintMore
attribute [local go_sem] max2_int min2_int max_two min_two max_three min_three max_four min_four
set_option linter.unusedVariables false
set_option linter.unusedSimpArgs false
def fleuronref18_Hulls.l0:Nat→List (S47)→List (S47)→List (List (S47))→Int→Int→Option ((List (List (S47))))
 | 0,_,_,_,_,_=>none
 | k+1,x0,x1,x5,x18,x19=>if x19<x18 then (if 0≤x19 then (if x19<(x1.length:Int) then (if 0≤(wrap64 (x19+1)) then (if (wrap64 (x19+1))<(x1.length:Int) then ((fleuronref18_Swept.f k x0 ((rd_T47 x1 x19).f0) ((rd_T47 x1 x19).f1) ((rd_T47 x1 (wrap64 (x19+1))).f0) ((rd_T47 x1 (wrap64 (x19+1))).f1)).bind fun t289=>(if x5.length<5864062014805 then (fleuronref18_Hulls.l0 k x0 x1 (x5++[t289]) x18 (wrap64 (x19+1))) else (none))) else (none)) else (none)) else (none)) else (none)) else (some x5)
def fleuronref18_Hulls.f (k:Nat) (l0:List (S47)) (l1:List (S47)):Option ((List (List (S47)))):=if (l1.length:Int)=1 then (if 0<(l1.length:Int) then ((fleuronref18_plus.f k l0 ((rd_T47 l1 0).f0) ((rd_T47 l1 0).f1)).bind fun t281=>(some (([t281]:List (List (S47)))))) else (none)) else (fleuronref18_Hulls.l0 k l0 l1 ([]:List (List (S47))) (wrap64 ((l1.length:Int)-1)) 0)
theorem fleuronref18_Hulls.mono_l : ∀ k,(∀ y0 y1 y2 y3 y4,LeO (fleuronref18_Hulls.l0 k y0 y1 y2 y3 y4) (fleuronref18_Hulls.l0 (k+1) y0 y1 y2 y3 y4))
 | 0=>fun _ _ _ _ _ r h=>by simp [fleuronref18_Hulls.l0] at h
 | k+1=>by
  have ih0:=fleuronref18_Hulls.mono_l k
  ·intro y0 y1 y2 y3 y4
   unfold fleuronref18_Hulls.l0
   repeat' first
   | (with_reducible exact ih0 _ _ _ _ _)
   | (with_reducible exact fleuronref18_Swept.mono _ _ _ _ _ _)
   | (with_reducible exact fleuronref18_plus.mono _ _ _ _)
   | (with_reducible exact LeO.refl _)
   | (with_reducible exact LeO.none _)
   | (with_reducible refine LeO.ite ?_ ?_)
   | (with_reducible refine LeO.bind ?_ (fun _=>?_))
   | exact ih0 _ _ _ _ _
   | exact fleuronref18_Swept.mono _ _ _ _ _ _
   | exact fleuronref18_plus.mono _ _ _ _
   | exact LeO.none _
   | refine LeO.ite ?_ ?_
   | refine LeO.bind ?_ (fun _=>?_)
theorem fleuronref18_Hulls.mono : ∀ a0 a1 k,LeO (fleuronref18_Hulls.f k a0 a1) (fleuronref18_Hulls.f (k+1) a0 a1):=by
 intro a0 a1 k
 have ih0:=fleuronref18_Hulls.mono_l k
 unfold fleuronref18_Hulls.f
 repeat' first
   | (with_reducible exact ih0 _ _ _ _ _)
   | (with_reducible exact fleuronref18_Swept.mono _ _ _ _ _ _)
   | (with_reducible exact fleuronref18_plus.mono _ _ _ _)
   | (with_reducible exact LeO.refl _)
   | (with_reducible exact LeO.none _)
   | (with_reducible refine LeO.ite ?_ ?_)
   | (with_reducible refine LeO.bind ?_ (fun _=>?_))
   | exact ih0 _ _ _ _ _
   | exact fleuronref18_Swept.mono _ _ _ _ _ _
   | exact fleuronref18_plus.mono _ _ _ _
   | exact LeO.none _
   | refine LeO.ite ?_ ?_
   | refine LeO.bind ?_ (fun _=>?_)
def fleuronref18_Hulls.T7:Bool×List (List Nat×List Nat):=(true,[([],[]),([],[]),([],[]),([],[]),([2,3],[2,3]),([4],[4]),([],[]),([],[]),([7],[7]),([6,8],[6,8]),([9],[9]),([1,5,10],[1,5,10]),([11],[11]),([0,12,11],[0,12]),([13,13,0,1,2,3,4,5,6,7,8,9,10,11,12,13],[0,13])])
def fleuronref18_Hulls.B7:List Nat:=[0,0,0,0,12,28,0,0,128,448,960,2046,4094,8191,16383]
theorem fleuronref18_Hulls.tab7:rtab .any (opsOf Tryz.f46 7)=fleuronref18_Hulls.T7:=by kernel_rfl
theorem fleuronref18_Hulls.bits7:waitsOk fleuronref18_Hulls.T7.2 fleuronref18_Hulls.B7=true:=by kernel_rfl
set_option maxHeartbeats 8000000 in
theorem fleuronref18_Hulls.calls (k:Nat) (A0:Option Addr) (c0:Nat) (l0:List (S47)) (A1:Option Addr) (c1:Nat) (l1:List (S47)) (r:List (List (S47))) (w:World) (hr0:Kd.C k47 w A0 l0.length l0) (hc0:l0.length≤c0) (hr1:Kd.C k47 w A1 l1.length l1) (hc1:l1.length≤c1) (h:fleuronref18_Hulls.f k l0 l1=some r) :
  Calls Tryz.prog 46 #[.slice A0 l0.length c0,.slice A1 l1.length c1] w fun e w'=>∃ v0_:Value,e = .returned (v0_)∧Kd.N (Kd.slice 47 k47) 34 w' w.heap.size (fun k_=>(w.heap.size≤k_)) v0_ r∧Below w.heap.size w w':=by
 have hu47:=Tryz.underlying47
 have HR0:=aK hr0
 have HC0:=aK hc0
 clear hr0 hc0
 have HR1:=aK hr1
 have HC1:=aK hc1
 clear hr1 hc1
 have HB:=aK (Below.refl w.heap.size w)
 have H:(if (l1.length:Int)=1 then (if 0<(l1.length:Int) then ((fleuronref18_plus.f k l0 ((rd_T47 l1 0).f0) ((rd_T47 l1 0).f1)).bind fun t281=>(some (([t281]:List (List (S47)))))) else (none)) else (fleuronref18_Hulls.l0 k l0 l1 ([]:List (List (S47))) (wrap64 ((l1.length:Int)-1)) 0))=some r:=h
 clear h
 by_cases c3:(l1.length:Int)=1
 ·rw [if_pos c3] at H
  have c3b0:((l1.length:Int) == 1)=true:=beq_iff_eq.mpr c3
  have c3b1:((l1.length:Int) != 1)=false:=bne_eq_false_iff_eq.mpr c3
  clear c3
  by_cases c4:0<(l1.length:Int)
  ·rw [if_pos c4] at H
   have c4b0:decide (0<(l1.length:Int))=true:=decide_eq_true c4
   have c4b1:decide (0<l1.length)=true:=decide_eq_true (by omega)
   clear c4
   replace H:=Option.bind_eq_some_iff.mp H
   obtain ⟨t281,A50,H⟩:=H
   replace H:(some (([t281]:List (List (S47)))))=some r:=H
   have A5:=aK A50
   clear A50
   obtain ⟨y284,hy284⟩ : ∃ y_:List (List (S47)),y_=(([t281]:List (List (S47)))):=⟨_,rfl⟩
   replace H:(some y284)=some r:=by first|(rw [hy284];with_reducible exact H)|(have H2_:=(Option.bind_some _ _).symm.trans H;rw [hy284];with_reducible exact H2_)|(have H2_:=(Option.bind_some _ _).symm.trans H;with_reducible exact H2_)|with_reducible exact H|(rw [hy284];exact H)|exact H
   have Ny284:=aK hy284
   clear hy284
   obtain rfl:=Option.some.inj H
   have p280:0≤(0:Int):=(by omega)
   have q280:0<(l1.length:Int):=of_decide_eq_true (by first|(with_reducible assumption)|assumption)
   obtain ⟨ad280,e280,hx280_0,hx280_1⟩:=at_T47 HR1.out 0 p280 q280
   cases e280
   have qi280:(0<l1.length)=True:=eq_true (by omega)
   (try rw [show ((0:Int)).toNat=0 from rfl] at hx280_0)
   (try rw [show 0*2=0 from rfl] at hx280_0)
   (try rw [Addr.add_zero'] at hx280_0)
   (try rw [show ((0:Int)).toNat=0 from rfl] at hx280_1)
   (try rw [show 0*2=0 from rfl] at hx280_1)
   (try rw [Addr.add_zero'] at hx280_1)
   replace p280:=eq_true p280
   replace q280:=eq_true q280
   go_enter Tryz.func46,Tryz.ntmps46
   go_wp2_with (first|((with_reducible refine gate_callee (f:=85) rfl ?_);refine goesL_ (some 14) rfl rfl Tryz.func85 (by kernel_rfl) rfl #[.slice A0 l0.length c0,.agg #[.int .i64 ((rd_T47 l1 0).f0),.int .i64 ((rd_T47 l1 0).f1)]] rfl (by (try simp only [List.map_toArray,List.map_cons,List.map_nil]);first|done|rfl|(simp only [List.length_drop,List.length_take];rfl)) ?_;(with_reducible refine (fleuronref18_plus.calls k _ _ l0 ((rd_T47 l1 0).f0) ((rd_T47 l1 0).f1) t281 _ ?side1 ?side2 A5.out).mono ?_);(case side1=>repeat (first|exact HR0.out|(with_reducible refine Kd.C_alloc ?_ _)|(with_reducible refine Kd.C_drewN ?_ _)|(with_reducible refine Kd.C_drew ?_)));(case side2=>exact HC0.out);rintro e w6 ⟨v282,rfl,ho0,hb⟩;refine ⟨_,rfl,?_⟩;have n0_:=aK (Kd.R_lower (Kd.R_newM (M:=fun k_=>(w.heap.size≤k_)) ho0 (below_size (by repeat (first|(with_reducible first|exact HB.out|apply below_alloc|apply pw_below_drewN|apply below_drew1)|exact HB.out))) (fun k_ h_=>h_)) (below_size (by repeat (first|(with_reducible first|exact HB.out|apply below_alloc|apply pw_below_drewN|apply below_drew1)|exact HB.out))));have n1_:=aK (below_step (by repeat (first|(with_reducible first|exact HB.out|apply below_alloc|apply pw_below_drewN|apply below_drew1)|exact HB.out)) hb);clear HB;have HO283:=n0_;have HB:=n1_;clear n0_ n1_;(try clear hb);(try clear hb2);(try clear hk);(try clear hi);(try clear ho0);obtain ⟨Ao7,co7,eo7⟩:=Kd.R_slice HO283.out;subst eo7)|((with_reducible refine gate_dst (N:=15) rfl ?_);refine Kd.N_lit (Kd.slice 47 k47) _ 34 ?hg (N':=15) ?hd (xs:=([t281]:List (List (S47)))) (inner:=[.slice Ao7 t281.length co7]) (ok:=(fun k_=>(w.heap.size≤k_))) (okp:=(fun k_=>(w.heap.size≤k_))) ?hr ?hp (fun _ hk=>hk) ((show ∀ k_,w6.heap.size≤k_→(fun k_=>(w.heap.size≤k_)) k_ from fun k_ hk=>(Nat.le_trans (below_size (by repeat (first|(with_reducible first|exact HB.out|apply below_alloc|apply pw_below_drewN|apply below_drew1)|exact HB.out))) hk)) _ (Nat.le_refl _)) (Below.refl _ _) (Nat.le_refl _) (by simp) ?_;(case hd=>rfl);(case hg=>rfl);(case hr=>first|(go_simp;done)|(go_simp;rfl));(case hp=>exact (Reps.one (show Kd.FK (Kd.slice 47 k47) _ _ t281 [.slice Ao7 t281.length co7] from (Kd.FK_slice_mk (Kd.R_reads' (Kd.R_mono (ok':=(fun k_=>(w.heap.size≤k_))) (HO283.out) (fun k_ hk=>hk.1))).2.1 (Kd.R_F (Kd.R_mono (ok':=(fun k_=>(w.heap.size≤k_))) (HO283.out) (fun k_ hk=>hk.1))))) (Reps.none _ _)));intro v285 w8 ho9 hb hg_ hnew_;clear hg_ hnew_;(first|rw [← Ny284.out] at ho9|(simp only [Int.reduceToNat] at ho9;rw [← Ny284.out] at ho9));have n0_:=aK (Kd.N_lower ho9 (below_size (by repeat (first|(with_reducible first|exact HB.out|apply below_alloc|apply pw_below_drewN|apply below_drew1)|exact HB.out))));have n1_:=aK (below_step (by repeat (first|(with_reducible first|exact HB.out|apply below_alloc|apply pw_below_drewN|apply below_drew1)|exact HB.out)) hb);clear HB;clear HO283;have HO286:=n0_;have HB:=n1_;clear n0_ n1_;clear hb ho9))
   go_ret
   exact ⟨_,by first|rfl|(simp [errW_none,errW_some] <;> rfl)|(simp [*,errW_none,errW_some] <;> rfl),by (with_reducible repeat (first|apply Kd.N_alloc|apply Kd.N_drewN|apply Kd.N_drew));exact HO286.out,by repeat (first|(with_reducible first|exact HB.out|apply below_alloc|apply pw_below_drewN|apply below_drew1)|exact HB.out)⟩
  ·rw [if_neg c4] at H
   exact absurd H (by simp)
 ·rw [if_neg c3] at H
  have c3b0:((l1.length:Int) == 1)=false:=beq_eq_false_iff_ne.mpr c3
  have c3b1:((l1.length:Int) != 1)=true:=bne_iff_ne.mpr c3
  have H':=aK H
  clear H
  go_enter Tryz.func46,Tryz.ntmps46
  go_wp2
  go_loopg [5,19] k (fun kq v5 v19 w'=>∃ (x5_1:List (List (S47))) (x19_1:Int),v19 = .int .i64 x19_1∧Aside0 (fleuronref18_Hulls.l0 kq l0 l1 x5_1 (wrap64 ((l1.length:Int)-1)) x19_1=some r)∧Aside0 (kq≤k)∧Aside0 (Kd.N (Kd.slice 47 k47) 34 w' w.heap.size (fun k_=>(w.heap.size≤k_)) v5 x5_1)∧Aside0 (Below w.heap.size w w'))
  case atStart=>exact ⟨(([]:List (List (S47)))),(0),(by first|rfl|(simp;done)|(simp [*];done)),H',⟨Nat.le_refl _⟩,⟨by first|exact Kd.S_nil _ _ _ _ _|exact Kd.N_nil _ _ _ _ _|exact Kd.V_nil _ _ _ _ _|exact Kd.Q_nil _ _ _ _ _|exact Kd.R_nil _ _ _ _ _⟩,⟨by repeat (first|(with_reducible first|exact HB.out|apply below_alloc|apply pw_below_drewN|apply below_drew1)|exact HB.out)⟩⟩
  case round =>
   clear H'
   try clear c1
   try clear p2
   try clear q2
   try clear hx2
   try clear qi2
   try clear c3
   try clear c3b0
   try clear c3b1
   try clear c4
   try clear c4b0
   try clear c4b1
   try clear p6
   try clear c8
   try clear hx280_0
   try clear hx280_1
   try clear p280
   try clear q280
   obtain ⟨x5_1,x19_1,rfl,HA,HK1,HO_5,HB⟩:=hrel
   cases gk with
   | zero=>exact absurd HA.out (by simp [fleuronref18_Hulls.l0])
   | succ k1 =>
    have H:=HA.out
    clear HA
    simp only [fleuronref18_Hulls.l0] at H
    by_cases c10:x19_1<(wrap64 ((l1.length:Int)-1))
    ·rw [if_pos c10] at H
     have c10b0:decide (x19_1<(wrap64 ((l1.length:Int)-1)))=true:=decide_eq_true c10
     clear c10
     by_cases c11:0≤x19_1
     ·rw [if_pos c11] at H
      have c11b0:decide (0≤x19_1)=true:=decide_eq_true c11
      clear c11
      by_cases c12:x19_1<(l1.length:Int)
      ·rw [if_pos c12] at H
       have c12b0:decide (x19_1<(l1.length:Int))=true:=decide_eq_true c12
       clear c12
       obtain ⟨ji13,hji13⟩ : ∃ j_:Int,(wrap64 (x19_1+1))=j_:=⟨_,rfl⟩
       replace H:(if 0≤(ji13) then (if (ji13)<(l1.length:Int) then ((fleuronref18_Swept.f k1 l0 ((rd_T47 l1 x19_1).f0) ((rd_T47 l1 x19_1).f1) ((rd_T47 l1 (ji13)).f0) ((rd_T47 l1 (ji13)).f1)).bind fun t289=>(if x5_1.length<5864062014805 then (fleuronref18_Hulls.l0 k1 l0 l1 (x5_1++[t289]) (wrap64 ((l1.length:Int)-1)) ji13) else (none))) else (none)) else (none))=some r:=by first|(rw [hji13] at H;exact H)|(simp only [hji13] at H ⊢;exact H)
       have hji13w:(IntKind.i64.wrap (x19_1+1))=ji13:=(i64_w _).trans hji13
       by_cases c14:0≤(ji13)
       ·rw [if_pos c14] at H
        have c14b0:decide (0≤(ji13))=true:=decide_eq_true c14
        clear c14
        by_cases c15:(ji13)<(l1.length:Int)
        ·rw [if_pos c15] at H
         have c15b0:decide ((ji13)<(l1.length:Int))=true:=decide_eq_true c15
         clear c15
         replace H:=Option.bind_eq_some_iff.mp H
         obtain ⟨t289,A160,H⟩:=H
         replace H:(if x5_1.length<5864062014805 then (fleuronref18_Hulls.l0 k1 l0 l1 (x5_1++[t289]) (wrap64 ((l1.length:Int)-1)) ji13) else (none))=some r:=H
         have A16:=aK A160
         clear A160
         by_cases c17:x5_1.length<5864062014805
         ·rw [if_pos c17] at H
          have LMc17:=aK c17
          clear c17
          obtain ⟨y292,hy292⟩ : ∃ y_:List (List (S47)),y_=(x5_1++[t289]):=⟨_,rfl⟩
          replace H:(fleuronref18_Hulls.l0 k1 l0 l1 y292 (wrap64 ((l1.length:Int)-1)) ji13)=some r:=by first|(rw [hy292];with_reducible exact H)|(have H2_:=(Option.bind_some _ _).symm.trans H;rw [hy292];with_reducible exact H2_)|(have H2_:=(Option.bind_some _ _).symm.trans H;with_reducible exact H2_)|with_reducible exact H|(rw [hy292];exact H)|exact H
          have Ny292:=aK hy292
          clear hy292
          have H':=aK H
          clear H
          try go_wp2
          have n0_:=aK (Kd.N_drew HO_5.out)
          have n1_:=aK (below_drew1 HB.out)
          clear HO_5
          clear HB
          have HO_5:=n0_
          have HB:=n1_
          clear n0_ n1_
          have p287:0≤(x19_1:Int):=of_decide_eq_true (by first|(with_reducible assumption)|assumption)
          have q287:x19_1<(l1.length:Int):=of_decide_eq_true (by first|(with_reducible assumption)|assumption)
          obtain ⟨ad287,e287,hx287_0,hx287_1⟩:=at_T47 HR1.out x19_1 p287 q287
          have hw287_1:=hx287_1
          have hw287_0:=hx287_0
          cases e287
          replace hx287_0:=(HB.out.cell (World.block_lt_of_cell? w _ hx287_0)).trans hx287_0
          replace hx287_1:=(HB.out.cell (World.block_lt_of_cell? w _ hx287_1)).trans hx287_1
          replace p287:=eq_true p287
          replace q287:=eq_true q287
          have p288:0≤((ji13):Int):=of_decide_eq_true (by first|(with_reducible assumption)|assumption)
          have q288:(ji13)<(l1.length:Int):=of_decide_eq_true (by first|(with_reducible assumption)|assumption)
          obtain ⟨ad288,e288,hx288_0,hx288_1⟩:=at_T47 HR1.out (ji13) p288 q288
          have hw288_1:=hx288_1
          have hw288_0:=hx288_0
          obtain rfl:ad287=ad288:=(by injection e288)
          replace hx288_0:=(HB.out.cell (World.block_lt_of_cell? w _ hx288_0)).trans hx288_0
          replace hx288_1:=(HB.out.cell (World.block_lt_of_cell? w _ hx288_1)).trans hx288_1
          replace p288:=eq_true p288
          replace q288:=eq_true q288
          refine start_ (n:=15) (S:=fun w'=>w'.cell? (ad287.add ((x19_1).toNat*2))=some (.int .i64 ((rd_T47 l1 x19_1).f0))∧w'.cell? ⟨(ad287.add ((x19_1).toNat*2)).block,(ad287.add ((x19_1).toNat*2)).off+1,none⟩=some (.int .i64 ((rd_T47 l1 x19_1).f1))∧w'.cell? (ad287.add (((ji13)).toNat*2))=some (.int .i64 ((rd_T47 l1 (ji13)).f0))∧w'.cell? ⟨(ad287.add (((ji13)).toNat*2)).block,(ad287.add (((ji13)).toNat*2)).off+1,none⟩=some (.int .i64 ((rd_T47 l1 (ji13)).f1))) (ds:=[]) #[false,false,false,false,false,false,false,false,false,false,false,false,false,false,false] (by kernel_rfl) rfl rfl ⟨((HB.out.cell (World.block_lt_of_cell? w _ hw287_0)).trans hw287_0),((HB.out.cell (World.block_lt_of_cell? w _ hw287_1)).trans hw287_1),((HB.out.cell (World.block_lt_of_cell? w _ hw288_0)).trans hw288_0),((HB.out.cell (World.block_lt_of_cell? w _ hw288_1)).trans hw288_1)⟩ (fun hHeld=>?_);refine with_tabW fleuronref18_Hulls.tab7 fleuronref18_Hulls.bits7 (fun HT_ HW_=>?_)
          generalize wr.drew=w18 at HO_5 HB hx287_0 hx287_1 hx288_0 hx288_1 hHeld ⊢
          refine pure_ (i:=0) (N:=some 22) (v:=?_) (a':=?_) #[true,false,false,false,false,false,false,false,false,false,false,false,false,false,false] rfl rfl (any_of HT_.out (by kernel_rfl)) (fun _ _ _ h=>h) (Or.inl ⟨by rfl,?_⟩) ?_ ?_
          rotate_left
          ·intro w'
           go_simp
           with_reducible rfl
          rotate_left
          ·simp only [Act.put,lS,i64_w,i32_w]
           rfl
          refine pure_ (i:=1) (N:=some 23) (v:=?_) (a':=?_) #[true,true,false,false,false,false,false,false,false,false,false,false,false,false,false] rfl rfl (any_of HT_.out (by kernel_rfl)) (fun _ _ _ h=>h) (Or.inl ⟨by rfl,?_⟩) ?_ ?_
          rotate_left
          ·intro w'
           go_simp
           with_reducible rfl
          rotate_left
          ·simp only [Act.put,lS,i64_w,i32_w]
           rfl
          refine pure_ (i:=2) (N:=some 24) (v:=?_) (a':=?_) #[true,true,true,false,false,false,false,false,false,false,false,false,false,false,false] rfl rfl (any_of HT_.out (by kernel_rfl)) (fun _ _ _ h=>h) (Or.inl ⟨by rfl,?_⟩) ?_ ?_
          rotate_left
          ·intro w'
           go_simp
           with_reducible rfl
          rotate_left
          ·simp only [Act.put,lS,i64_w,i32_w]
           rfl
          refine pure_ (i:=3) (N:=some 25) (v:=?_) (a':=?_) #[true,true,true,true,false,false,false,false,false,false,false,false,false,false,false] rfl rfl (any_of HT_.out (by kernel_rfl)) (fun _ _ _ h=>h) (Or.inl ⟨by rfl,?_⟩) ?_ ?_
          rotate_left
          ·intro w'
           go_simp
           with_reducible rfl
          rotate_left
          ·simp only [Act.put,lS,i64_w,i32_w]
           rfl
          refine pure_ (i:=4) (N:=some 26) (v:=?_) (a':=?_) #[true,true,true,true,true,false,false,false,false,false,false,false,false,false,false] rfl rfl (any_of HT_.out (by kernel_rfl)) (fun _ _ _ h=>h) (Or.inl ⟨by rfl,?_⟩) ?_ ?_
          rotate_left
          ·intro w'
           go_simp
           with_reducible rfl
          rotate_left
          ·simp only [Act.put,lS,i64_w,i32_w]
           rfl
          refine pure_ (i:=6) (N:=some 28) (v:=?_) (a':=?_) #[true,true,true,true,true,false,true,false,false,false,false,false,false,false,false] rfl rfl (any_of HT_.out (by kernel_rfl)) (fun _ _ _ h=>h) (Or.inl ⟨by rfl,?_⟩) ?_ ?_
          rotate_left
          ·intro w'
           go_simp
           with_reducible rfl
          rotate_left
          ·simp only [Act.put,lS,i64_w,i32_w]
           rfl
          refine pure_ (i:=7) (N:=some 29) (v:=?_) (a':=?_) #[true,true,true,true,true,false,true,true,false,false,false,false,false,false,false] rfl rfl (any_of HT_.out (by kernel_rfl)) (fun _ _ _ h=>h) (Or.inl ⟨by rfl,?_⟩) ?_ ?_
          rotate_left
          ·intro w'
           go_simp
           with_reducible rfl
          rotate_left
          ·simp only [Act.put,lS,i64_w,i32_w]
           rfl
          refine pure_ (i:=8) (N:=some 30) (v:=?_) (a':=?_) #[true,true,true,true,true,false,true,true,true,false,false,false,false,false,false] rfl rfl (any_of HT_.out (by kernel_rfl)) (fun _ _ _ h=>h) (Or.inl ⟨by rfl,?_⟩) ?_ ?_
          rotate_left
          ·intro w'
           go_simp
           with_reducible rfl
          rotate_left
          ·simp only [Act.put,lS,i64_w,i32_w]
           rfl
          refine pure_ (i:=9) (N:=some 31) (v:=?_) (a':=?_) #[true,true,true,true,true,false,true,true,true,true,false,false,false,false,false] rfl rfl (any_of HT_.out (by kernel_rfl)) (fun _ _ _ h=>h) (Or.inl ⟨by rfl,?_⟩) ?_ ?_
          rotate_left
          ·intro w'
           go_simp
           with_reducible rfl
          rotate_left
          ·simp only [Act.put,lS,i64_w,i32_w]
           rfl
          refine take_ (i:=5) (N:=some 27) (v:=?_) (a':=?_) #[true,true,true,true,true,true,true,true,true,true,false,false,false,false,false] rfl rfl (take_ofW HT_.out HW_.out (by kernel_rfl)) (fun _ _ _ h=>h) (Or.inl ⟨by rfl,?_⟩) hHeld ?_ ?_
          rotate_left
          ·rintro w' ⟨s0,s1,s2,s3⟩
           go_simp
           with_reducible rfl
          rotate_left
          ·simp only [Act.put,lS,i64_w,i32_w]
           rfl
          refine take_ (i:=10) (N:=some 32) (v:=?_) (a':=?_) #[true,true,true,true,true,true,true,true,true,true,true,false,false,false,false] rfl rfl (take_ofW HT_.out HW_.out (by kernel_rfl)) (fun _ _ _ h=>h) (Or.inl ⟨by rfl,?_⟩) hHeld ?_ ?_
          rotate_left
          ·rintro w' ⟨s0,s1,s2,s3⟩
           go_simp
           with_reducible rfl
          rotate_left
          ·simp only [Act.put,lS,i64_w,i32_w]
           rfl
          refine one_ (i:=11) (N:=some 33) #[true,true,true,true,true,true,true,true,true,true,true,true,false,false,false] rfl rfl (one_of HT_.out (by kernel_rfl)) (by decide) (fun K hK=>?_)
          refine goes_ Tryz.func86 (by kernel_rfl) rfl #[.slice A0 l0.length c0,.agg #[.int .i64 ((rd_T47 l1 x19_1).f0),.int .i64 ((rd_T47 l1 x19_1).f1)],.agg #[.int .i64 ((rd_T47 l1 (ji13)).f0),.int .i64 ((rd_T47 l1 (ji13)).f1)]] (by rfl) rfl rfl (by (try simp only [List.map_toArray,List.map_cons,List.map_nil]);first|done|(simp only [hji13];rfl)|rfl|(simp only [List.length_drop,List.length_take];rfl)) ?_
          with_reducible refine (fleuronref18_Swept.calls k1 _ _ l0 ((rd_T47 l1 x19_1).f0) ((rd_T47 l1 x19_1).f1) ((rd_T47 l1 (ji13)).f0) ((rd_T47 l1 (ji13)).f1) t289 _ ?side1 ?side2 A16.out).mono ?_
          (case side1=>repeat (first|exact (Kd.C_below HR0.out HB.out)|(with_reducible refine Kd.C_alloc ?_ _)|(with_reducible refine Kd.C_drewN ?_ _)|(with_reducible refine Kd.C_drew ?_)))
          (case side2=>exact HC0.out)
          rintro e w19 ⟨v290,rfl,ho0,hb⟩
          refine ⟨_,rfl,?_⟩
          have n0_:=aK (Kd.N_elder' (by (with_reducible repeat (first|apply Kd.N_alloc|apply Kd.N_drewN|apply Kd.N_drew));exact HO_5.out) (Kd.R_base ho0) hb)
          have n1_:=aK (Kd.R_lower (Kd.R_newM (M:=fun k_=>(w.heap.size≤k_)) ho0 (below_size (by repeat (first|(with_reducible first|exact HB.out|apply below_alloc|apply pw_below_drewN|apply below_drew1)|exact HB.out))) (fun k_ h_=>h_)) (below_size (by repeat (first|(with_reducible first|exact HB.out|apply below_alloc|apply pw_below_drewN|apply below_drew1)|exact HB.out))))
          have n2_:=aK (below_step (by repeat (first|(with_reducible first|exact HB.out|apply below_alloc|apply pw_below_drewN|apply below_drew1)|exact HB.out)) hb)
          clear HO_5
          clear HB
          have HO_5:=n0_
          have HO291:=n1_
          have HB:=n2_
          clear n0_ n1_ n2_
          (try clear hb)
          (try clear hb2)
          (try clear hk)
          (try clear hi)
          (try clear ho0)
          obtain ⟨Ao21,co21,eo21⟩:=Kd.R_slice HO291.out
          (first|subst eo21|(injection eo21 with f1_ f2_ f3_;have f4_:=f1_.symm;have f5_:=f3_.symm;clear f1_ f2_ f3_;subst f4_;subst f5_))
          refine hK.out _ _ ⟨((HB.out.cell (World.block_lt_of_cell? w _ hw287_0)).trans hw287_0),((HB.out.cell (World.block_lt_of_cell? w _ hw287_1)).trans hw287_1),((HB.out.cell (World.block_lt_of_cell? w _ hw288_0)).trans hw288_0),((HB.out.cell (World.block_lt_of_cell? w _ hw288_1)).trans hw288_1)⟩ (fun hHeld=>?_)
          clear hK K
          refine norm_ (a':=?_) ?_ ?_
          rotate_left
          ·show Act.put _ (some 33) _=_
           simp only [Act.put,lS,i64_w,i32_w]
           rfl
          refine one_ (i:=12) (N:=some 34) #[true,true,true,true,true,true,true,true,true,true,true,true,true,false,false] rfl rfl (one_of HT_.out (by kernel_rfl)) (by decide) (fun K hK=>?_)
          refine value_ (w1:=?_) (v:=?_) (by rfl) rfl ?_ ?_
          rotate_left 2
          ·go_simp
           constructor
           ·rfl
           ·rfl
          refine hK.out _ _ ⟨(World.cell?_alloc_lt _ _ _ (World.block_lt_of_cell? _ _ (((HB.out.cell (World.block_lt_of_cell? w _ hw287_0)).trans hw287_0)))).trans (((HB.out.cell (World.block_lt_of_cell? w _ hw287_0)).trans hw287_0)),(World.cell?_alloc_lt _ _ _ (World.block_lt_of_cell? _ _ (((HB.out.cell (World.block_lt_of_cell? w _ hw287_1)).trans hw287_1)))).trans (((HB.out.cell (World.block_lt_of_cell? w _ hw287_1)).trans hw287_1)),(World.cell?_alloc_lt _ _ _ (World.block_lt_of_cell? _ _ (((HB.out.cell (World.block_lt_of_cell? w _ hw288_0)).trans hw288_0)))).trans (((HB.out.cell (World.block_lt_of_cell? w _ hw288_0)).trans hw288_0)),(World.cell?_alloc_lt _ _ _ (World.block_lt_of_cell? _ _ (((HB.out.cell (World.block_lt_of_cell? w _ hw288_1)).trans hw288_1)))).trans (((HB.out.cell (World.block_lt_of_cell? w _ hw288_1)).trans hw288_1))⟩ (fun hHeld=>?_)
          clear hK K
          refine norm_ (a':=?_) ?_ ?_
          rotate_left
          ·show Act.put _ (some 34) _=_
           simp only [Act.put,lS,i64_w,i32_w]
           rfl
          refine one_ (i:=13) (N:=some 35) #[true,true,true,true,true,true,true,true,true,true,true,true,true,true,false] rfl rfl (one_of HT_.out (by kernel_rfl)) (by decide) (fun K hK=>?_)
          refine Kd.N_append_step (Kd.slice 47 k47) (w0:=w) w.heap.size (by rfl) (.tmp 22) (.tmp 34) 22 34 (.slice none 0 0) 24 rfl Tryz.underlying22 info34 rfl (by decide) (by omega) u5 x5_1 t289 [.slice Ao21 t289.length co21] (fun k_=>(w.heap.size≤k_)) (fun k_=>((fun k_=>(w.heap.size≤k_))) k_∧some k_≠(u5:Value).ownBlock) rfl rfl ?aP (fun _ hk=>hk) ?aF ?aO ?aB ?aS ?aL ?_
          (case aP=>exact (Kd.FK_slice_mk (Kd.R_reads' (Kd.R_mono (ok':=(fun k_=>((fun k_=>(w.heap.size≤k_))) k_∧some k_≠(u5:Value).ownBlock)) (Kd.R_apart' (HO291.out) (Kd.N_typed HO_5.out) (by decide)) (fun k_ hk=>⟨hk.1.1,hk.2⟩))).2.1 (Kd.R_F (Kd.R_mono (ok':=(fun k_=>((fun k_=>(w.heap.size≤k_))) k_∧some k_≠(u5:Value).ownBlock)) (Kd.R_apart' (HO291.out) (Kd.N_typed HO_5.out) (by decide)) (fun k_ hk=>⟨hk.1.1,hk.2⟩)))))
          (case aB=>exact (by repeat (first|(with_reducible first|exact HB.out|apply below_alloc|apply pw_below_drewN|apply below_drew1)|exact HB.out)))
          (case aF=>exact (fun k_ hk=>(Nat.le_trans (below_size (by repeat (first|(with_reducible first|exact HB.out|apply below_alloc|apply pw_below_drewN|apply below_drew1)|exact HB.out))) hk)))
          (case aO=>exact (by (with_reducible repeat (first|apply Kd.N_alloc|apply Kd.N_drewN|apply Kd.N_drew));exact Kd.N_mono HO_5.out (fun _ hk=>hk.1)))
          (case aS=>exact (below_size (by repeat (first|(with_reducible first|exact HB.out|apply below_alloc|apply pw_below_drewN|apply below_drew1)|exact HB.out))))
          (case aL=>have:=LMc17.out;omega)
          intro v293 w20 ho hb hg hat
          rw [← Ny292.out] at ho
          have n0_:=aK (hb)
          have n1_:=aK (ho)
          clear HB
          clear HO_5
          clear HO291
          have HB:=n0_
          have HO294:=n1_
          clear n0_ n1_
          clear ho hb hg hat
          refine hK.out _ _ ⟨((HB.out.cell (World.block_lt_of_cell? w _ hw287_0)).trans hw287_0),((HB.out.cell (World.block_lt_of_cell? w _ hw287_1)).trans hw287_1),((HB.out.cell (World.block_lt_of_cell? w _ hw288_0)).trans hw288_0),((HB.out.cell (World.block_lt_of_cell? w _ hw288_1)).trans hw288_1)⟩ (fun hHeld=>?_)
          clear hK K
          refine norm_ (a':=?_) ?_ ?_
          rotate_left
          ·show Act.put _ (some 35) _=_
           simp only [Act.put,lS,i64_w,i32_w]
           rfl
          refine pure_ (i:=14) (N:=some 5) (v:=?_) (a':=?_) #[true,true,true,true,true,true,true,true,true,true,true,true,true,true,true] rfl rfl (any_of HT_.out (by kernel_rfl)) (fun _ _ _ h=>h) (Or.inl ⟨by rfl,?_⟩) ?_ ?_
          rotate_left
          ·intro w'
           go_simp
           with_reducible rfl
          rotate_left
          ·simp only [Act.put,lS,i64_w,i32_w]
           rfl
          refine done_ (done_of HT_.out (by kernel_rfl)) ?_
          try go_wp2
          go_roundg k1
          case measure=>have:=HK1.out;omega
          case rel=>exact ⟨(y292),(ji13),(by first|rfl|(simp;done)|(simp only [← hji13] <;> (first|rfl|simp))|(simp [*];done)),H',⟨by have:=HK1.out;omega⟩,⟨by (with_reducible repeat (first|apply Kd.N_alloc|apply Kd.N_drewN|apply Kd.N_drew));exact HO294.out⟩,⟨by repeat (first|(with_reducible first|exact HB.out|apply below_alloc|apply pw_below_drewN|apply below_drew1)|exact HB.out)⟩⟩
         ·rw [if_neg c17] at H
          exact absurd H (by simp)
        ·rw [if_neg c15] at H
         exact absurd H (by simp)
       ·rw [if_neg c14] at H
        exact absurd H (by simp)
      ·rw [if_neg c12] at H
       exact absurd H (by simp)
     ·rw [if_neg c11] at H
      exact absurd H (by simp)
    ·rw [if_neg c10] at H
     have c10b0:decide (x19_1<(wrap64 ((l1.length:Int)-1)))=false:=decide_eq_false c10
     clear c10
     obtain rfl:=Option.some.inj H
     go_wp2
     go_ret
     exact ⟨_,by first|rfl|(simp [errW_none,errW_some] <;> rfl)|(simp [*,errW_none,errW_some] <;> rfl),by (with_reducible repeat (first|apply Kd.N_alloc|apply Kd.N_drewN|apply Kd.N_drew));exact HO_5.out,by repeat (first|(with_reducible first|exact HB.out|apply below_alloc|apply pw_below_drewN|apply below_drew1)|exact HB.out)⟩
def fleuronref16_Bounds.f (l0:List S47):Option (Int×Int×Int×Int):=if 1≤l0.length∧l0.length≤1000000000 then some (bndAt l0 l0.length) else none
set_option maxHeartbeats 4000000 in
theorem fleuronref16_Bounds.calls (A0:Option Addr) (c0:Nat) (l0:List S47) (r:Int×Int×Int×Int) (w:World) (hr0:Kd.C k47 w A0 l0.length l0) (hc0:l0.length≤c0) (h:fleuronref16_Bounds.f l0=some r) :
  Calls Tryz.prog 111 #[.slice A0 l0.length c0] w fun e w'=>e = .returned (.agg #[.int .i64 r.1,.int .i64 r.2.1,.int .i64 r.2.2.1,.int .i64 r.2.2.2])∧Below w.heap.size w w':=by
 have hu:=Tryz.underlying47
 have hu2:=Tryz.underlying92
 unfold fleuronref16_Bounds.f at h
 by_cases hl:1≤l0.length∧l0.length≤1000000000
 case neg=>rw [if_neg hl] at h;exact absurd h (by simp)
 rw [if_pos hl] at h
 have HRES:=aK (Option.some.inj h)
 have HL:=aK hl
 have HR0:=aK hr0
 have h0i:(0:Int)<(l0.length:Int):=by omega
 have h0n:0<l0.length:=by omega
 have hne : ¬ (l0=[]):=by rintro rfl;simp at h0n
 obtain ⟨ad,rfl,hx0,hx1⟩:=at_T47 hr0 0 (by omega) h0i
 have P1:=aK (show (w.alloc (.cells #[.int .i64 0,.int .i64 0,.int .i64 0,.int .i64 0] 92)).drew.cell? ad=some (.int .i64 (rd_T47 l0 0).f0) from (World.cell?_alloc_lt w _ _ (World.block_lt_of_cell? w _ hx0)).trans hx0)
 have P2:=aK (show (w.alloc (.cells #[.int .i64 0,.int .i64 0,.int .i64 0,.int .i64 0] 92)).drew.cell? ⟨ad.block,ad.off+1,none⟩=some (.int .i64 (rd_T47 l0 0).f1) from (World.cell?_alloc_lt w _ _ (World.block_lt_of_cell? w _ hx1)).trans hx1)
 clear h hl hr0 hx0 hx1
 go_enter Tryz.func111,Tryz.ntmps111
 go_wp2
 refine start_ (n:=9) (S:=fun w'=>w'.cell? ad=some (.int .i64 (rd_T47 l0 0).f0)∧w'.cell? ⟨ad.block,ad.off+1,none⟩=some (.int .i64 (rd_T47 l0 0).f1)) (ds:=[8]) #[false,false,false,false,false,false,false,false,false] (by kernel_rfl) rfl rfl ⟨P1.out,P2.out⟩ (fun hHeld=>?_)
 refine pure_ (i:=0) (N:=some 6) (v:=?_) (a':=?_) #[true,false,false,false,false,false,false,false,false] rfl rfl (by kernel_rfl) (fun _ _ _ h=>h) (Or.inl ⟨by rfl,?_⟩) ?_ ?_
 rotate_left
 ·intro w'
  go_simp
  with_reducible rfl
 rotate_left
 ·simp only [Act.put,lS,i64_w,i32_w]
  rfl
 refine pure_ (i:=1) (N:=some 7) (v:=?_) (a':=?_) #[true,true,false,false,false,false,false,false,false] rfl rfl (by kernel_rfl) (fun _ _ _ h=>h) (Or.inl ⟨by rfl,?_⟩) ?_ ?_
 rotate_left
 ·intro w'
  go_simp
  with_reducible rfl
 rotate_left
 ·simp only [Act.put,lS,i64_w,i32_w]
  rfl
 refine pure_ (i:=3) (N:=some 9) (v:=?_) (a':=?_) #[true,true,false,true,false,false,false,false,false] rfl rfl (by kernel_rfl) (fun _ _ _ h=>h) (Or.inl ⟨by rfl,?_⟩) ?_ ?_
 rotate_left
 ·intro w'
  go_simp
  with_reducible rfl
 rotate_left
 ·simp only [Act.put,lS,i64_w,i32_w]
  rfl
 refine pure_ (i:=4) (N:=some 10) (v:=?_) (a':=?_) #[true,true,false,true,true,false,false,false,false] rfl rfl (by kernel_rfl) (fun _ _ _ h=>h) (Or.inl ⟨by rfl,?_⟩) ?_ ?_
 rotate_left
 ·intro w'
  go_simp
  with_reducible rfl
 rotate_left
 ·simp only [Act.put,lS,i64_w,i32_w]
  rfl
 refine take_ (i:=2) (N:=some 8) (v:=?_) (a':=?_) #[true,true,true,true,true,false,false,false,false] rfl rfl (by kernel_rfl) (fun _ _ _ h=>h) (Or.inl ⟨by rfl,?_⟩) hHeld ?_ ?_
 rotate_left
 ·rintro w' ⟨s0,s1⟩
  go_simp
  with_reducible rfl
 rotate_left
 ·simp only [Act.put,lS,i64_w,i32_w]
  rfl
 refine take_ (i:=5) (N:=some 11) (v:=?_) (a':=?_) #[true,true,true,true,true,true,false,false,false] rfl rfl (by kernel_rfl) (fun _ _ _ h=>h) (Or.inl ⟨by rfl,?_⟩) hHeld ?_ ?_
 rotate_left
 ·rintro w' ⟨s0,s1⟩
  go_simp
  with_reducible rfl
 rotate_left
 ·simp only [Act.put,lS,i64_w,i32_w]
  rfl
 refine pure_ (i:=6) (N:=some 12) (v:=?_) (a':=?_) #[true,true,true,true,true,true,true,false,false] rfl rfl (by kernel_rfl) (fun _ _ _ h=>h) (Or.inl ⟨by rfl,?_⟩) ?_ ?_
 rotate_left
 ·intro w'
  go_simp
  with_reducible rfl
 rotate_left
 ·simp only [Act.put,lS,i64_w,i32_w]
  rfl
 refine one_ (i:=7) (N:=some 3) #[true,true,true,true,true,true,true,true,false] rfl rfl (by kernel_rfl) (by decide) (fun K hK=>?_)
 refine value_ (w1:=?_) (v:=?_) (by rfl) rfl ?_ ?_
 rotate_left 2
 ·go_simp
  constructor
  ·rfl
  ·rfl
 refine hK.out _ _ ⟨(World.cell?_alloc_lt _ _ _ (World.block_lt_of_cell? _ _ hHeld.1)).trans hHeld.1,(World.cell?_alloc_lt _ _ _ (World.block_lt_of_cell? _ _ hHeld.2)).trans hHeld.2⟩ (fun hHeld=>?_)
 clear hK K
 refine norm_ (a':=?_) ?_ ?_
 rotate_left
 ·show Act.put _ (some 3) _=_
  simp only [Act.put,lS,i64_w,i32_w]
  rfl
 refine last_ (i:=8) (N:=none) #[true,true,true,true,true,true,true,true,true] rfl rfl (by kernel_rfl) (by decide) (fun K hK=>?_)
 refine skip_ (w1:=?_) (by rfl) rfl ?_ ?_
 rotate_left
 ·go_simp
  rfl
 refine hK.out _ _ ?_
 clear hK K
 refine done_ (by kernel_rfl) ?_
 go_wp2
 go_loopg [15] l0.length (fun gg s15 wr=>∃ kk:Nat,kk≤l0.length∧l0.length≤gg+kk∧s15 = .int .i64 kk∧Aside0 (Below w.heap.size w wr)∧Aside0 (wr.heap[w.heap.size]?=some (.cells #[.int .i64 0,.int .i64 0,.int .i64 0,.int .i64 0] 92 (0,0)))∧Aside0 (wr.heap[w.heap.size+1]?=some (.cells #[.int .i64 (bndAt l0 kk).1,.int .i64 (bndAt l0 kk).2.1,.int .i64 (bndAt l0 kk).2.2.1,.int .i64 (bndAt l0 kk).2.2.2] 92 (0,0))))
 case atStart=>exact ⟨0,by omega,by omega,rfl,⟨below_drew1 (below_alloc (below_alloc (Below.refl w.heap.size w) _) _)⟩,⟨blk_drew (blk_alloc (blk_new w _) _)⟩,⟨by have h:=blk_new (w.alloc (.cells #[.int .i64 0,.int .i64 0,.int .i64 0,.int .i64 0] 92)) (.cells #[.int .i64 (rd_T47 l0 0).f0,.int .i64 (rd_T47 l0 0).f1,.int .i64 (rd_T47 l0 0).f0,.int .i64 (rd_T47 l0 0).f1] 92);simp only [World.size_alloc] at h;exact h⟩⟩
 case round =>
  obtain ⟨kk,hkk,hg,rfl,HB,BR,BO⟩:=hrel
  by_cases hlt:kk<l0.length
  ·have hlti:(kk:Int)<(l0.length:Int):=by omega
   have hk0:0≤(kk:Int):=by omega
   obtain ⟨ad',e',hy0,hy1⟩:=at_T47 HR0.out (kk:Int) (by omega) hlti
   obtain rfl:ad=ad':=by injection e'
   simp only [Int.toNat_natCast] at hy0 hy1
   have hx0:=(HB.out.cell (World.block_lt_of_cell? w _ hy0)).trans hy0
   have hx1:=(HB.out.cell (World.block_lt_of_cell? w _ hy1)).trans hy1
   have hbn:bndAt l0 (kk+1)=(mn (bndAt l0 kk).1 (rd_T47 l0 (kk:Int)).f0,mn (bndAt l0 kk).2.1 (rd_T47 l0 (kk:Int)).f1,mx (bndAt l0 kk).2.2.1 (rd_T47 l0 (kk:Int)).f0,mx (bndAt l0 kk).2.2.2 (rd_T47 l0 (kk:Int)).f1):=rfl
   generalize rd_T47 l0 (kk:Int)=x at *
   generalize bndAt l0 kk=b at *
   obtain ⟨b0,b1,b2,b3⟩:=b
   simp only at hbn BO
   have e0:(if x.f0<b0 then x.f0 else b0)=mn b0 x.f0:=rfl
   have e1:(if x.f1<b1 then x.f1 else b1)=mn b1 x.f1:=rfl
   have e2:(if b2<x.f0 then x.f0 else b2)=mx b2 x.f0:=rfl
   have e3:(if b3<x.f1 then x.f1 else b3)=mx b3 x.f1:=rfl
   generalize mn b0 x.f0=m0 at *
   generalize mn b1 x.f1=m1 at *
   generalize mx b2 x.f0=m2 at *
   generalize mx b3 x.f1=m3 at *
   have HBN:=aK hbn
   have hwj:wrap64 ((kk:Int)+1)=((kk+1:Nat):Int):=by have:=HL.out;unfold wrap64;omega
   have HW:=aK hwj
   have ne1:w.heap.size+1≠wr.heap.size:=by have:=blk_lt BO.out;omega
   have V0:=blk_alloc BO.out (.cells #[.int .i64 x.f0,.int .i64 x.f1] 47)
   have X0:=blk_new wr (.cells #[.int .i64 x.f0,.int .i64 x.f1] 47)
   have a0:=(blk_cell V0 0).trans rfl
   have a1:=(blk_cell V0 1).trans rfl
   have g0:=blk_frozen V0 0
   have x0:=(blk_cell X0 0).trans rfl
   have x1:=(blk_cell X0 1).trans rfl
   have V1:=blk_set V0 0 (.int .i64 m0)
   have a2:=(blk_cell V1 1).trans rfl
   have g1:=blk_frozen V1 1
   have V2:=blk_set V1 1 (.int .i64 m1)
   have X1:=blk_far (blk_far X0 (p:=⟨w.heap.size+1,0,none⟩) (Ne.symm ne1) (.int .i64 m0)) (p:=⟨w.heap.size+1,1,none⟩) (Ne.symm ne1) (.int .i64 m1)
   have a3:=(blk_cell V2 2).trans rfl
   have a4:=(blk_cell V2 3).trans rfl
   have x2:=(blk_cell X1 0).trans rfl
   have x3:=(blk_cell X1 1).trans rfl
   have g2:=blk_frozen V2 2
   have V3:=blk_set V2 2 (.int .i64 m2)
   have a5:=(blk_cell V3 3).trans rfl
   have g3:=blk_frozen V3 3
   have V4:=aK (blk_set V3 3 (.int .i64 m3))
   clear hy0 hy1 hbn e' hwj V0 X0 V1 V2 X1 V3
   go_wp2
   go_roundg (l0.length-(kk+1))
   case measure=>omega
   case rel=>exact ⟨kk+1,by omega,by omega,congrArg (Value.int .i64) HW.out,⟨below_set (below_set (below_set (below_set (below_alloc HB.out _) (by omega)) (by omega)) (by omega)) (by omega)⟩,⟨blk_far (blk_far (blk_far (blk_far (blk_alloc BR.out _) (by simp) _) (by simp) _) (by simp) _) (by simp) _⟩,⟨by rw [HBN.out];exact V4.out⟩⟩
  ·have hlti : ¬ (kk:Int)<(l0.length:Int):=by omega
   obtain rfl:kk=l0.length:=by omega
   rw [HRES.out] at BO
   obtain ⟨b0,b1,b2,b3⟩:=r
   simp only at BO ⊢
   have a0:=(blk_cell BO.out 0).trans rfl
   have a1:=(blk_cell BO.out 1).trans rfl
   have a2:=(blk_cell BO.out 2).trans rfl
   have a3:=(blk_cell BO.out 3).trans rfl
   have R0:=BR.out
   have R1:=blk_set R0 0 (.int .i64 b0)
   have R2:=blk_set R1 1 (.int .i64 b1)
   have R3:=blk_set R2 2 (.int .i64 b2)
   have R4:=aK (blk_set R3 3 (.int .i64 b3))
   have q0:=(blk_cell R0 0).trans rfl
   have q1:=(blk_cell R1 1).trans rfl
   have q2:=(blk_cell R2 2).trans rfl
   have q3:=(blk_cell R3 3).trans rfl
   have g0:=blk_frozen R0 0
   have g1:=blk_frozen R1 1
   have g2:=blk_frozen R2 2
   have g3:=blk_frozen R3 3
   clear R0 R1 R2 R3
   go_wp2
   refine bodyPost_ret (results_cell_row rfl _ _ w.heap.size 92 #[.int .i64 b0,.int .i64 b1,.int .i64 b2,.int .i64 b3] (0,0) _ rfl R4.out Tryz.underlying92 rfl (by kernel_rfl)) rfl ?_
   exact ⟨rfl,below_set (below_set (below_set (below_set HB.out (Nat.le_refl _)) (Nat.le_refl _)) (Nat.le_refl _)) (Nat.le_refl _)⟩
end Go.Proofs.YtckjlckhjcbddaaGreat.PG3
