import Derived.Test.YtoemkemmiikhlaaGreatPF3x0
import Derived.Test.YtoemkemmiikhlaaGreatPF3x1
import Derived.Test.YtoemkemmiikhlaaGreatPF3x2
set_option maxRecDepth 100000
namespace Go.Proofs.YtoemkemmiikhlaaGreat.PF3
open Go.RowKit Go.Proofs.YtoemkemmiikhlaaGreatW.PrintWords Go.Proofs.YtoemkemmiikhlaaGreatW.PrintLast Go.Proofs.YtoemkemmiikhlaaGreatW.PrintMore
attribute [local go_sem] max2_int min2_int max_two min_two max_three min_three max_four min_four
set_option linter.unusedVariables false
set_option linter.unusedSimpArgs false
def sizeB (n:Int):Bool:=decide (1≤n) && decide (n≤268435455)
theorem isSize_is (n:Int):metric_IsSize.f n=some (sizeB n):=by
 unfold metric_IsSize.f sizeB
 by_cases h:n≥1
 ·rw [if_pos h,decide_eq_true (show 1≤n from h)];rfl
 ·rw [if_neg h,decide_eq_false (show ¬ 1≤n from h)];rfl
def validM (sz:Int) (cs:List S50) (rs:List S45):Bool:=sizeB sz && (decide (cs.length≤256) && (cs.all okC && (chainB lessC cs && validR rs)))
set_option maxHeartbeats 4000000 in
theorem valid_calls (sz : Int) (A1 : Option Addr) (c1 : Nat) (cs : List S50) (A2 : Option Addr) (c2 : Nat) (rs : List S45) (w : World) (hr1 : Kd.C k50 w A1 cs.length cs) (hr2 : Kd.C k45 w A2 rs.length rs) (hl1 : cs.length ≤ 1000000000000) (hl2 : rs.length ≤ 1000000000000) :
  Calls Tryz.prog 13 #[.agg #[.int .i64 sz,.slice A1 cs.length c1,.slice A2 rs.length c2]] w fun e w'=>e = .returned (.bool (validM sz cs rs))∧Below w.heap.size w w':=by
 have hu:=Tryz.underlying25
 have HB0:=aK (below_alloc (Below.refl w.heap.size w) (.cells #[.int .i64 sz,.slice A1 cs.length c1,.slice A2 rs.length c2] 25))
 have HK:=aK (blk_new w (.cells #[.int .i64 sz,.slice A1 cs.length c1,.slice A2 rs.length c2] 25))
 have HS:=aK (fun V=>metric_IsSize.calls sz (sizeB sz) V (isSize_is sz))
 have HA:=aK (fun V (h:Below w.heap.size w V)=>allC_calls A1 c1 cs V (Kd.C_below hr1 h) hl1)
 have HR:=aK (fun V (h:Below w.heap.size w V)=>risingC_calls A1 c1 cs V (Kd.C_below hr1 h) hl1)
 have HVR:=aK (fun V (h:Below w.heap.size w V)=>validRules_calls A2 c2 rs V (Kd.C_below hr2 h) hl2)
 have HV:Aside0 (validM sz cs rs=(sizeB sz && (decide (cs.length≤256) && (cs.all okC && (chainB lessC cs && validR rs))))):=⟨rfl⟩
 generalize validM sz cs rs=r at *
 have p0:=(blk_cell HK.out 0).trans rfl
 have p1:=(blk_cell HK.out 1).trans rfl
 have p2:=(blk_cell HK.out 2).trans rfl
 clear hr1 hr2 hl1 hl2
 cases hq1:sizeB sz with
 | false =>
  rw [hq1] at HS HV
  rw [Bool.false_and] at HV
  clear hq1
  go_enter Tryz.func13,Tryz.ntmps13
  go_wp2_with fail
  refine (HS.out _).mono ?_
  rintro e W1 ⟨rfl,⟨n1,rfl⟩⟩
  go_wp2
  go_ret
  exact ⟨by rw [HV.out];rfl,pw_below_drewN HB0.out n1⟩
 | true =>
 rw [hq1] at HS HV
 rw [Bool.true_and] at HV
 clear hq1
 by_cases h5:cs.length≤256
 case neg =>
  have h5i : ¬ (cs.length:Int)≤256:=by omega
  have h5b:decide ((cs.length:Int)≤256)=false:=decide_eq_false h5i
  rw [decide_eq_false h5,Bool.false_and] at HV
  go_enter Tryz.func13,Tryz.ntmps13
  go_wp2_with fail
  refine (HS.out _).mono ?_
  rintro e W1 ⟨rfl,⟨n1,rfl⟩⟩
  go_wp2
  go_ret
  exact ⟨by rw [HV.out];rfl,pw_below_drewN HB0.out n1⟩
 have h5i:(cs.length:Int)≤256:=by omega
 have h5b:decide ((cs.length:Int)≤256)=true:=decide_eq_true h5i
 rw [decide_eq_true h5,Bool.true_and] at HV
 go_enter Tryz.func13,Tryz.ntmps13
 go_wp2_with fail
 refine (HS.out _).mono ?_
 rintro e W1 ⟨rfl,⟨n1,rfl⟩⟩
 have hc:=HA.out _ (pw_below_drewN HB0.out n1)
 cases hq:cs.all okC with
 | false =>
  rw [hq] at hc HV
  rw [Bool.false_and] at HV
  clear hq
  go_wp2_with fail
  refine hc.mono ?_
  rintro e W2 ⟨rfl,hb2⟩
  have HB:=aK (below_step (pw_below_drewN HB0.out n1) hb2)
  clear hc hb2
  go_wp2
  go_ret
  exact ⟨by rw [HV.out];rfl,HB.out⟩
 | true =>
 rw [hq] at hc HV
 rw [Bool.true_and] at HV
 clear hq
 go_wp2_with fail
 refine hc.mono ?_
 rintro e W2 ⟨rfl,hb2⟩
 have HB:=aK (below_step (pw_below_drewN HB0.out n1) hb2)
 have HK2:=aK (blk_below (blk_drewN HK.out n1) hb2)
 clear hc hb2 HK p0 p1 p2
 have p1:=(blk_cell HK2.out 1).trans rfl
 have p2:=(blk_cell HK2.out 2).trans rfl
 have hc:=HR.out _ HB.out
 cases hq:chainB lessC cs with
 | false =>
  rw [hq] at hc HV
  rw [Bool.false_and] at HV
  clear hq
  go_wp2_with fail
  refine hc.mono ?_
  rintro e W3 ⟨rfl,hb3⟩
  have HB3:=aK (below_step HB.out hb3)
  clear hc hb3
  go_wp2
  go_ret
  exact ⟨by rw [HV.out];rfl,HB3.out⟩
 | true =>
 rw [hq] at hc HV
 rw [Bool.true_and] at HV
 clear hq
 go_wp2_with fail
 refine hc.mono ?_
 rintro e W3 ⟨rfl,hb3⟩
 have HB3:=aK (below_step HB.out hb3)
 have HK3:=aK (blk_below HK2.out hb3)
 clear hc hb3 HK2 p1 p2 HB
 have p2:=(blk_cell HK3.out 2).trans rfl
 have hc:=HVR.out _ HB3.out
 generalize validR rs=q at *
 go_wp2_with fail
 refine hc.mono ?_
 rintro e W4 ⟨rfl,hb4⟩
 have HB4:=aK (below_step HB3.out hb4)
 clear hc hb4
 go_wp2
 go_ret
 exact ⟨by rw [HV.out];first|rfl|(cases q <;> rfl),HB4.out⟩
def be1 (n:Int):List Int:=[n % 256]
def be2 (n:Int):List Int:=[n / 256 % 256,n % 256]
def be4 (n:Int):List Int:=[n / 16777216 % 256,n / 65536 % 256,n / 256 % 256,n % 256]
def FileAt (w:World) (base b:Nat) (l:List Int):Prop:=∃ v,w.heap[b]?=some (.cells #[v] 98 (0,0))∧Kd.R (Kd.int .u8) 5 w base (fun _=>True) v l
def KeepF (w w':World) (b:Nat):Prop:=w.heap.size≤w'.heap.size∧∀ k,k<w.heap.size→k≠b→(∀ cs,w.heap[k]?≠some (.cells cs 5 (0,0)))→w'.heap[k]?=w.heap[k]?
theorem KeepF.refl (w:World) (b:Nat):KeepF w w b:=⟨Nat.le_refl _,fun _ _ _ _=>rfl⟩
theorem KeepF.blk {w w':World} {b k:Nat} {cs:Array Value} {t:TypeId} (h:KeepF w w' b) (hk:w.heap[k]?=some (.cells cs t (0,0))) (ht:t≠5) (hne:k≠b):w'.heap[k]?=some (.cells cs t (0,0)):=by
 refine (h.2 k (blk_lt hk) hne (fun cs' e=>?_)).trans hk
 rw [hk] at e
 injection e with e
 injection e with _ e
 exact ht e
theorem KeepF.of_below {w w':World} (b:Nat) (h:Below w.heap.size w w'):KeepF w w' b:=⟨h.size,fun k hk _ _=>h.block k hk⟩
theorem KeepF.row {α:Type} {d:Kd α} {e base b:Nat} {ok:Nat→Prop} {v:Value} {xs:List α} {w w':World} {cs:Array Value} {t:TypeId} (h:KeepF w w' b) (ho:d.R e w base ok v xs) (hb:w.heap[b]?=some (.cells cs t (0,0))) (h1 : ∀ q,q∈e::d.E→q≠5∧q≠t):d.R e w' base ok v xs:=by
 refine Kd.R_mono (Kd.R_move (Kd.R_bound ho) (fun k hk=>?_)) (fun _ hk=>hk.1)
 obtain ⟨_,_,hlt,q,hq,cells,hc⟩:=hk
 refine (h.blk hc (h1 q hq).1 ?_).trans hc.symm
 rintro rfl
 rw [hc] at hb
 injection hb with hb
 injection hb with _ hb
 exact (h1 q hq).2 hb
theorem reps_u8 {w:World} {base:Nat} {ok:Nat→Prop} (xs:List Int):Reps ((Kd.int .u8).M w base ok) (Kd.int .u8).sz xs (nums .u8 xs):=by
 refine ⟨by rw [nums,List.length_map];exact (Nat.mul_one _).symm,fun j p hj=>?_⟩
 obtain ⟨hx,rfl⟩:=List.getElem?_eq_some_iff.1 hj
 show ((xs.map (Value.int .u8)).drop (j*1)).take 1=[Value.int .u8 xs[j]]
 rw [Nat.mul_one,List.drop_eq_getElem_cons (by simpa using hx)]
 simp
theorem lit_C8 (W:World) (t:TypeId) (xs:List Int) (h:xs.length≤9223372036854775807):Kd.C (Kd.int .u8) (W.alloc (.cells (nums .u8 xs).toArray t)) (some ⟨W.heap.size,0,none⟩) xs.length xs:=by
 have hR:Kd.R (Kd.int .u8) t (W.alloc (.cells (nums .u8 xs).toArray t)) W.heap.size (fun _=>True) (.slice (some ⟨W.heap.size,0,none⟩) xs.length xs.length) xs:=⟨fun _ _=>trivial,nums .u8 xs,own_lit W W.heap.size t .u8 xs (Nat.le_refl _) h,reps_u8 xs⟩
 exact (Kd.R_reads' hR).2.2
theorem file_put {w0 W w1 : World} {base b : Nat} {v v1 : Value} {l l' : List Int} (hb : W.heap[b]? = some (.cells #[v] 98 (0, 0))) (ho : Kd.R (Kd.int .u8) 5 W base (fun _ => True) v l)
  (h1:Kd.R (Kd.int .u8) 5 w1 base (fun _=>True) v1 l') (hB1:Below w0.heap.size w0 w1) (hg:W.grownBy w1 v.ownBlock) (hbb:w0.heap.size≤b) :
  FileAt (w1.setCell ⟨b,0,none⟩ v1) base b l'∧Below w0.heap.size w0 (w1.setCell ⟨b,0,none⟩ v1)∧KeepF W (w1.setCell ⟨b,0,none⟩ v1) b:=by
 have hne:=Kd.R_ne ho hb (by decide)
 have hb1:=blk_grown hb hg hne
 refine ⟨⟨v1,blk_put hb1 0 v1 rfl,Kd.R_set h1 hb1 (by decide) 0 v1⟩,below_set hB1 hbb,?_,fun k hk hkb hk5=>?_⟩
 ·simpa [World.setCell] using hg.size
 ·refine (Below.heap_setCell w1 ⟨b,0,none⟩ v1 k hkb).trans (hg.block k hk (fun e=>?_))
  obtain ⟨cells,hc⟩:=own_typed ho.2.choose_spec.1 k e.symm
  exact hk5 cells hc
theorem grown_alloc {α:Type} {d:Kd α} {e base:Nat} {ok:Nat→Prop} {v:Value} {xs:List α} {W w1:World} {o:Obj} (ho:d.R e W base ok v xs) (hg:(W.alloc o).grownBy w1 v.ownBlock):W.grownBy w1 v.ownBlock :=
 ⟨hg.os,hg.tape,hg.output,by have:=hg.size;simp at this;omega,fun k hk hne=>(hg.block k (by simp;omega) hne).trans ((below_alloc (Below.refl W.heap.size W) o).block k hk)⟩
set_option maxHeartbeats 4000000 in
theorem fileOne (w0 : World) (b : Nat) (n : Int) (l : List Int) (W : World) (hB : Below w0.heap.size w0 W) (hbb : w0.heap.size ≤ b) (hF : FileAt W w0.heap.size b l) (hl : l.length ≤ 1000000000) :
  Calls Tryz.prog 75 #[.pointer (some ⟨b,0,none⟩),.int .i64 n] W fun e w'=>e = .returned (.tuple #[])∧FileAt w' w0.heap.size b (l++be1 n)∧Below w0.heap.size w0 w'∧KeepF W w' b:=by
 have hu:=Tryz.underlying98
 obtain ⟨v,hb,ho⟩:=hF
 obtain ⟨A0,c0,rfl⟩:=Kd.R_slice ho
 have HL:=aK hl
 have HB:=aK hB
 have HO:=aK ho
 have HK:=aK hb
 have HS:=aK (show w0.heap.size≤W.heap.size from hB.size)
 have HBB:=aK hbb
 have p0:=(blk_cell hb 0).trans rfl
 have p1:=(blk_cell (blk_alloc hb (.cells #[.int .u8 (n % 256)] 5)) 0).trans rfl
 clear hb ho hB hl hbb
 go_enter Tryz.func75,Tryz.ntmps75
 go_wp2_with ((with_reducible refine gate_builtin (b:=.append) (xs:=#[.tmp 8,.tmp 11]) rfl ?_);at_builtin;refine Kd.R_append_rows (Kd.int .u8) (w0:=w0) w0.heap.size rfl (.tmp 8) (.tmp 11) 28 5 (.int .u8 0) 1 rfl Tryz.underlying28 info5 rfl (by decide) (by omega) (.slice A0 l.length c0) l (be1 n) (some ⟨W.heap.size,0,none⟩) 1 1 (fun _=>True) (fun _=>False) rfl rfl ?aO ?aR (fun _ _ h=>h) (fun _ h=>h.elim) (fun _ _=>trivial) ?aB ?aS ?aL ?_;(case aO=>exact Kd.R_alloc HO.out _);(case aR=>exact lit_C8 W 5 (be1 n) (by simp only [be1,List.length_cons,List.length_nil];omega));(case aB=>exact below_alloc HB.out _);(case aS=>have:=HS.out;simp;omega);(case aL=>have:=HL.out;omega);intro v1 w1 ho hb hg hat;obtain ⟨A1,c1,rfl⟩:=Kd.R_slice ho;have hg':=grown_alloc (o:=.cells #[.int .u8 (n % 256)] 5) HO.out hg;have hne:=Kd.R_ne HO.out HK.out (by decide);have q0:=(blk_cell (blk_grown HK.out hg' hne) 0).trans rfl;have q1:=blk_frozen (blk_grown HK.out hg' hne) 0;have HFP:=aK (file_put HK.out HO.out ho hb hg' HBB.out);clear ho hb hg hg' hat hne)
 go_end0
 have h:=HFP.out
 rw [List.length_append] at h
 exact ⟨rfl,h⟩
set_option maxHeartbeats 4000000 in
theorem fileFour (w0 : World) (b : Nat) (n : Int) (l : List Int) (W : World) (hB : Below w0.heap.size w0 W) (hbb : w0.heap.size ≤ b) (hF : FileAt W w0.heap.size b l) (hl : l.length ≤ 1000000000) :
  Calls Tryz.prog 69 #[.pointer (some ⟨b,0,none⟩),.int .i64 n] W fun e w'=>e = .returned (.tuple #[])∧FileAt w' w0.heap.size b (l++be4 n)∧Below w0.heap.size w0 w'∧KeepF W w' b:=by
 have hu:=Tryz.underlying98
 obtain ⟨v,hb,ho⟩:=hF
 obtain ⟨A0,c0,rfl⟩:=Kd.R_slice ho
 have HL:=aK hl
 have HB:=aK hB
 have HO:=aK ho
 have HK:=aK hb
 have HS:=aK (show w0.heap.size≤W.heap.size from hB.size)
 have HBB:=aK hbb
 have p0:=(blk_cell hb 0).trans rfl
 have p1:=(blk_cell (blk_alloc hb (.cells #[.int .u8 (n / 16777216 % 256),.int .u8 (n / 65536 % 256),.int .u8 (n / 256 % 256),.int .u8 (n % 256)] 5)) 0).trans rfl
 clear hb ho hB hl hbb
 go_enter Tryz.func69,Tryz.ntmps69
 go_wp2_with ((with_reducible refine gate_builtin (b:=.append) (xs:=#[.tmp 8,.tmp 20]) rfl ?_);at_builtin;refine Kd.R_append_rows (Kd.int .u8) (w0:=w0) w0.heap.size rfl (.tmp 8) (.tmp 20) 28 5 (.int .u8 0) 1 rfl Tryz.underlying28 info5 rfl (by decide) (by omega) (.slice A0 l.length c0) l (be4 n) (some ⟨W.heap.size,0,none⟩) 4 4 (fun _=>True) (fun _=>False) rfl rfl ?aO ?aR (fun _ _ h=>h) (fun _ h=>h.elim) (fun _ _=>trivial) ?aB ?aS ?aL ?_;(case aO=>exact Kd.R_alloc HO.out _);(case aR=>exact lit_C8 W 5 (be4 n) (by simp only [be4,List.length_cons,List.length_nil];omega));(case aB=>exact below_alloc HB.out _);(case aS=>have:=HS.out;simp;omega);(case aL=>have:=HL.out;omega);intro v1 w1 ho hb hg hat;obtain ⟨A1,c1,rfl⟩:=Kd.R_slice ho;have hg':=grown_alloc (o:=.cells #[.int .u8 (n / 16777216 % 256),.int .u8 (n / 65536 % 256),.int .u8 (n / 256 % 256),.int .u8 (n % 256)] 5) HO.out hg;have hne:=Kd.R_ne HO.out HK.out (by decide);have q0:=(blk_cell (blk_grown HK.out hg' hne) 0).trans rfl;have q1:=blk_frozen (blk_grown HK.out hg' hne) 0;have HFP:=aK (file_put HK.out HO.out ho hb hg' HBB.out);clear ho hb hg hg' hat hne)
 go_end0
 have h:=HFP.out
 rw [List.length_append] at h
 exact ⟨rfl,h⟩
def metric_width.f (a0_0:Int) (a0_1:Int) (a0_2:Int) (a0_3:Int):Option (Int):=some a0_1
set_option maxHeartbeats 8000000 in
theorem metric_width.calls (a0_0 : Int) (a0_1 : Int) (a0_2 : Int) (a0_3 : Int) (r : Int) (w : World) (h : metric_width.f a0_0 a0_1 a0_2 a0_3 = some r) :
  Calls Tryz.prog 70 #[.agg #[.int .i64 a0_0,.int .i64 a0_1,.int .i64 a0_2,.int .i64 a0_3]] w fun e w'=>e = .returned (.int .i64 r)∧Below w.heap.size w w':=by
 have hu50:=Tryz.underlying50
 have HB:=aK (Below.refl w.heap.size w)
 have H:(some a0_1)=some r:=h
 clear h
 obtain rfl:=Option.some.inj H
 go_enter Tryz.func70,Tryz.ntmps70
 go_wp2_with (first|((with_reducible refine gate_dst (N:=1) rfl ?_);refine box_event ?hg (N:=1) ?hd (cs:=#[.int .i64 a0_0,.int .i64 a0_1,.int .i64 a0_2,.int .i64 a0_3]) (t:=50) ?hr ?_;(case hd=>rfl);(case hg=>rfl);(case hr=>first|(go_simp;done)|(go_simp;rfl));intro gb116 hg w2 hbox hb;have n0_:=aK (below_step (by repeat (first|(with_reducible first|exact HB.out|apply below_alloc|apply pw_below_drewN|apply below_drew1)|exact HB.out)) hb);have n1_:=aK (hbox);have n2_:=aK ((by rw [hg];exact (below_size (by repeat (first|(with_reducible first|exact HB.out|apply below_alloc|apply pw_below_drewN|apply below_drew1)|exact HB.out))):w.heap.size≤gb116));have n3_:=n2_;clear HB;have HB:=n0_;have BK116:=n1_;have GW116:=n2_;have GE116:=n3_;clear n0_ n1_ n2_ n3_;clear hb hbox hg;have hcz3_0:w2.cell? ⟨gb116,0,none⟩=some (.int .i64 a0_0):=(blk_cell BK116.out 0).trans rfl;have hcz3_1:w2.cell? ⟨gb116,1,none⟩=some (.int .i64 a0_1):=(blk_cell BK116.out 1).trans rfl;have hcz3_2:w2.cell? ⟨gb116,2,none⟩=some (.int .i64 a0_2):=(blk_cell BK116.out 2).trans rfl;have hcz3_3:w2.cell? ⟨gb116,3,none⟩=some (.int .i64 a0_3):=(blk_cell BK116.out 3).trans rfl;have hfz3_0:=blk_frozen BK116.out 0;have hfz3_1:=blk_frozen BK116.out 1;have hfz3_2:=blk_frozen BK116.out 2;have hfz3_3:=blk_frozen BK116.out 3))
 go_ret
 exact ⟨by first|rfl|(simp [errW_none,errW_some] <;> rfl)|(simp [*,errW_none,errW_some] <;> rfl),by repeat (first|(with_reducible first|exact HB.out|apply below_alloc|apply pw_below_drewN|apply below_drew1|refine below_set ?_ GE116.out)|exact HB.out)⟩
def metric_height.f (a0_0:Int) (a0_1:Int) (a0_2:Int) (a0_3:Int):Option (Int):=some a0_2
set_option maxHeartbeats 8000000 in
theorem metric_height.calls (a0_0 : Int) (a0_1 : Int) (a0_2 : Int) (a0_3 : Int) (r : Int) (w : World) (h : metric_height.f a0_0 a0_1 a0_2 a0_3 = some r) :
  Calls Tryz.prog 71 #[.agg #[.int .i64 a0_0,.int .i64 a0_1,.int .i64 a0_2,.int .i64 a0_3]] w fun e w'=>e = .returned (.int .i64 r)∧Below w.heap.size w w':=by
 have hu50:=Tryz.underlying50
 have HB:=aK (Below.refl w.heap.size w)
 have H:(some a0_2)=some r:=h
 clear h
 obtain rfl:=Option.some.inj H
 go_enter Tryz.func71,Tryz.ntmps71
 go_wp2_with (first|((with_reducible refine gate_dst (N:=1) rfl ?_);refine box_event ?hg (N:=1) ?hd (cs:=#[.int .i64 a0_0,.int .i64 a0_1,.int .i64 a0_2,.int .i64 a0_3]) (t:=50) ?hr ?_;(case hd=>rfl);(case hg=>rfl);(case hr=>first|(go_simp;done)|(go_simp;rfl));intro gb117 hg w2 hbox hb;have n0_:=aK (below_step (by repeat (first|(with_reducible first|exact HB.out|apply below_alloc|apply pw_below_drewN|apply below_drew1)|exact HB.out)) hb);have n1_:=aK (hbox);have n2_:=aK ((by rw [hg];exact (below_size (by repeat (first|(with_reducible first|exact HB.out|apply below_alloc|apply pw_below_drewN|apply below_drew1)|exact HB.out))):w.heap.size≤gb117));have n3_:=n2_;clear HB;have HB:=n0_;have BK117:=n1_;have GW117:=n2_;have GE117:=n3_;clear n0_ n1_ n2_ n3_;clear hb hbox hg;have hcz3_0:w2.cell? ⟨gb117,0,none⟩=some (.int .i64 a0_0):=(blk_cell BK117.out 0).trans rfl;have hcz3_1:w2.cell? ⟨gb117,1,none⟩=some (.int .i64 a0_1):=(blk_cell BK117.out 1).trans rfl;have hcz3_2:w2.cell? ⟨gb117,2,none⟩=some (.int .i64 a0_2):=(blk_cell BK117.out 2).trans rfl;have hcz3_3:w2.cell? ⟨gb117,3,none⟩=some (.int .i64 a0_3):=(blk_cell BK117.out 3).trans rfl;have hfz3_0:=blk_frozen BK117.out 0;have hfz3_1:=blk_frozen BK117.out 1;have hfz3_2:=blk_frozen BK117.out 2;have hfz3_3:=blk_frozen BK117.out 3))
 go_ret
 exact ⟨by first|rfl|(simp [errW_none,errW_some] <;> rfl)|(simp [*,errW_none,errW_some] <;> rfl),by repeat (first|(with_reducible first|exact HB.out|apply below_alloc|apply pw_below_drewN|apply below_drew1|refine below_set ?_ GE117.out)|exact HB.out)⟩
def metric_depth.f (a0_0:Int) (a0_1:Int) (a0_2:Int) (a0_3:Int):Option (Int):=some a0_3
set_option maxHeartbeats 8000000 in
theorem metric_depth.calls (a0_0 : Int) (a0_1 : Int) (a0_2 : Int) (a0_3 : Int) (r : Int) (w : World) (h : metric_depth.f a0_0 a0_1 a0_2 a0_3 = some r) :
  Calls Tryz.prog 72 #[.agg #[.int .i64 a0_0,.int .i64 a0_1,.int .i64 a0_2,.int .i64 a0_3]] w fun e w'=>e = .returned (.int .i64 r)∧Below w.heap.size w w':=by
 have hu50:=Tryz.underlying50
 have HB:=aK (Below.refl w.heap.size w)
 have H:(some a0_3)=some r:=h
 clear h
 obtain rfl:=Option.some.inj H
 go_enter Tryz.func72,Tryz.ntmps72
 go_wp2_with (first|((with_reducible refine gate_dst (N:=1) rfl ?_);refine box_event ?hg (N:=1) ?hd (cs:=#[.int .i64 a0_0,.int .i64 a0_1,.int .i64 a0_2,.int .i64 a0_3]) (t:=50) ?hr ?_;(case hd=>rfl);(case hg=>rfl);(case hr=>first|(go_simp;done)|(go_simp;rfl));intro gb118 hg w2 hbox hb;have n0_:=aK (below_step (by repeat (first|(with_reducible first|exact HB.out|apply below_alloc|apply pw_below_drewN|apply below_drew1)|exact HB.out)) hb);have n1_:=aK (hbox);have n2_:=aK ((by rw [hg];exact (below_size (by repeat (first|(with_reducible first|exact HB.out|apply below_alloc|apply pw_below_drewN|apply below_drew1)|exact HB.out))):w.heap.size≤gb118));have n3_:=n2_;clear HB;have HB:=n0_;have BK118:=n1_;have GW118:=n2_;have GE118:=n3_;clear n0_ n1_ n2_ n3_;clear hb hbox hg;have hcz3_0:w2.cell? ⟨gb118,0,none⟩=some (.int .i64 a0_0):=(blk_cell BK118.out 0).trans rfl;have hcz3_1:w2.cell? ⟨gb118,1,none⟩=some (.int .i64 a0_1):=(blk_cell BK118.out 1).trans rfl;have hcz3_2:w2.cell? ⟨gb118,2,none⟩=some (.int .i64 a0_2):=(blk_cell BK118.out 2).trans rfl;have hcz3_3:w2.cell? ⟨gb118,3,none⟩=some (.int .i64 a0_3):=(blk_cell BK118.out 3).trans rfl;have hfz3_0:=blk_frozen BK118.out 0;have hfz3_1:=blk_frozen BK118.out 1;have hfz3_2:=blk_frozen BK118.out 2;have hfz3_3:=blk_frozen BK118.out 3))
 go_ret
 exact ⟨by first|rfl|(simp [errW_none,errW_some] <;> rfl)|(simp [*,errW_none,errW_some] <;> rfl),by repeat (first|(with_reducible first|exact HB.out|apply below_alloc|apply pw_below_drewN|apply below_drew1|refine below_set ?_ GE118.out)|exact HB.out)⟩
def cmp_Less_int.f (a0:Int) (a1:Int):Option (Bool):=(cmp_isNaN_int.f a0).bind fun t119=>(if t119=true then ((cmp_isNaN_int.f a1).bind fun t120=>(if t120=true then (some (decide (a0<a1))) else (some true))) else (some (decide (a0<a1))))
set_option maxHeartbeats 8000000 in
theorem cmp_Less_int.calls (a0 : Int) (a1 : Int) (r : Bool) (w : World) (h : cmp_Less_int.f a0 a1 = some r) :
  Calls Tryz.prog 100 #[.int .i64 a0,.int .i64 a1] w fun e w'=>e = .returned (.bool r)∧Drawn0 w w':=by
 have H:((cmp_isNaN_int.f a0).bind fun t119=>(if t119=true then ((cmp_isNaN_int.f a1).bind fun t120=>(if t120=true then (some (decide (a0<a1))) else (some true))) else (some (decide (a0<a1)))))=some r:=h
 clear h
 replace H:=Option.bind_eq_some_iff.mp H
 obtain ⟨t119,A30,H⟩:=H
 replace H:(if t119=true then ((cmp_isNaN_int.f a1).bind fun t120=>(if t120=true then (some (decide (a0<a1))) else (some true))) else (some (decide (a0<a1))))=some r:=H
 have A3:=aK A30
 clear A30
 by_cases c4:t119=true
 ·subst c4
  have H1:((cmp_isNaN_int.f a1).bind fun t120=>(if t120=true then (some (decide (a0<a1))) else (some true)))=some r:=by rw [if_pos rfl] at H;exact H
  clear H
  have H:=H1
  clear H1
  replace H:=Option.bind_eq_some_iff.mp H
  obtain ⟨t120,A50,H⟩:=H
  replace H:(if t120=true then (some (decide (a0<a1))) else (some true))=some r:=H
  have A5:=aK A50
  clear A50
  by_cases c6:t120=true
  ·subst c6
   have H1:(some (decide (a0<a1)))=some r:=by rw [if_pos rfl] at H;exact H
   clear H
   have H:=H1
   clear H1
   obtain rfl:=Option.some.inj H
   go_enter Tryz.func100,Tryz.ntmps100
   go_wp2_with (first|((with_reducible refine gate_callee (f:=104) rfl ?_);refine goesL_ (some 6) rfl rfl Tryz.func104 (by kernel_rfl) rfl #[.int .i64 a0] rfl (by (try simp only [List.map_toArray,List.map_cons,List.map_nil]);first|done|rfl|(simp only [List.length_drop,List.length_take];rfl)) ?_;(with_reducible refine (cmp_isNaN_int.calls a0 true _ A3.out).mono ?_);rintro e w' ⟨rfl,⟨nd,rfl⟩⟩;refine ⟨_,rfl,?_⟩)|(go_at_call 104;(with_reducible refine (cmp_isNaN_int.calls a1 true _ A5.out).mono ?_);rintro e w' ⟨rfl,⟨nd,rfl⟩⟩))
   go_ret
   exact ⟨by first|rfl|(simp;done)|(simp [*];done),by repeat (first|exact Drawn0.refl _|apply Drawn0.step)⟩
  ·replace c6:=Bool.eq_false_iff.mpr c6
   subst c6
   have H1:(some true)=some r:=by rw [if_neg (show ¬ (false=true) by decide)] at H;exact H
   clear H
   have H:=H1
   clear H1
   obtain rfl:=Option.some.inj H
   go_enter Tryz.func100,Tryz.ntmps100
   go_wp2_with (first|((with_reducible refine gate_callee (f:=104) rfl ?_);refine goesL_ (some 6) rfl rfl Tryz.func104 (by kernel_rfl) rfl #[.int .i64 a0] rfl (by (try simp only [List.map_toArray,List.map_cons,List.map_nil]);first|done|rfl|(simp only [List.length_drop,List.length_take];rfl)) ?_;(with_reducible refine (cmp_isNaN_int.calls a0 true _ A3.out).mono ?_);rintro e w' ⟨rfl,⟨nd,rfl⟩⟩;refine ⟨_,rfl,?_⟩)|(go_at_call 104;(with_reducible refine (cmp_isNaN_int.calls a1 false _ A5.out).mono ?_);rintro e w' ⟨rfl,⟨nd,rfl⟩⟩))
   go_ret
   exact ⟨by first|rfl|(simp;done)|(simp [*];done),by repeat (first|exact Drawn0.refl _|apply Drawn0.step)⟩
 ·replace c4:=Bool.eq_false_iff.mpr c4
  subst c4
  have H1:(some (decide (a0<a1)))=some r:=by rw [if_neg (show ¬ (false=true) by decide)] at H;exact H
  clear H
  have H:=H1
  clear H1
  obtain rfl:=Option.some.inj H
  go_enter Tryz.func100,Tryz.ntmps100
  go_wp2_with (first|((with_reducible refine gate_callee (f:=104) rfl ?_);refine goesL_ (some 6) rfl rfl Tryz.func104 (by kernel_rfl) rfl #[.int .i64 a0] rfl (by (try simp only [List.map_toArray,List.map_cons,List.map_nil]);first|done|rfl|(simp only [List.length_drop,List.length_take];rfl)) ?_;(with_reducible refine (cmp_isNaN_int.calls a0 false _ A3.out).mono ?_);rintro e w' ⟨rfl,⟨nd,rfl⟩⟩;refine ⟨_,rfl,?_⟩))
  go_ret
  exact ⟨by first|rfl|(simp;done)|(simp [*];done),by repeat (first|exact Drawn0.refl _|apply Drawn0.step)⟩
theorem nums_of_reps {w:World} {base:Nat} {ok:Nat→Prop} {xs:List Int} {cs:List Value} (h:Reps ((Kd.int .i64).M w base ok) (Kd.int .i64).sz xs cs):cs=xs.map (Value.int .i64):=by
 obtain ⟨h1,h2⟩:=h
 have h1':cs.length=xs.length:=by rw [h1];exact Nat.mul_one _
 apply List.ext_getElem (by simpa using h1')
 intro j hj hj'
 have hx:j<xs.length:=by omega
 have h3:=h2 j xs[j] (List.getElem?_eq_getElem hx)
 have h4:(cs.drop (j*1)).take 1=[Value.int .i64 xs[j]]:=h3
 rw [Nat.mul_one] at h4
 have h5:(cs.drop j)[0]?=some (Value.int .i64 xs[j]):=by
  have h6:((cs.drop j).take 1)[0]?=[Value.int IntKind.i64 xs[j]][0]?:=by rw [h4]
  rw [List.getElem?_take_of_lt (by omega)] at h6
  exact h6
 rw [List.getElem?_drop,Nat.add_zero,List.getElem?_eq_getElem hj] at h5
 rw [List.getElem_map]
 exact Option.some.inj h5
theorem compactI_calls (u : Value) (l0 : List Int) (w0 w : World) (hB : Below w0.heap.size w0 w) (ho0 : Kd.R (Kd.int .i64) 3 w w0.heap.size (fun _ => True) u l0) (hl : l0.length ≤ 1000000000) :
  Calls Tryz.prog 99 #[u] w fun e w'=>∃ v,e = .returned v∧Kd.R (Kd.int .i64) 3 w' w0.heap.size (fun _=>True) v (Lib.compact l0)∧Below w0.heap.size w0 w':=by
 obtain ⟨h0,inner,ho,hr⟩:=ho0
 have hi:=nums_of_reps hr
 subst hi
 rcases ho.2 with ⟨rfl,hn⟩|⟨g,cap,cur,rfl,hbase,hh,hle,hcap,hsz,htk⟩
 ·have hl0:l0=[]:=List.length_eq_zero_iff.mp hn
  subst hl0
  refine (AnyG.slices_Compact_int_empty Tryz.compactI none 0 w).mono ?_
  rintro e w' ⟨rfl,rfl⟩
  exact ⟨_,rfl,Kd.R_nil _ _ _ _ _,hB⟩
 ·have hH:=holds_of_blockI (ss:=l0) hh (by rw [show l0.length*(Kd.int .i64).sz=l0.length from Nat.mul_one _] at htk;exact htk)
  have hlt:=lt_of_block hh
  refine (AnyG.slices_Compact_int Tryz.compactI g 0 cap l0 w hH (by omega) hle).mono ?_
  rintro e w' ⟨rfl,q,rfl⟩
  have hcl:(Lib.compact l0).length≤l0.length:=by
   unfold Lib.compact Lib.compactUpTo
   rw [List.length_map]
   exact Nat.le_trans (List.length_filter_le _ _) (by simp)
  obtain ⟨r,hr2⟩ : ∃ r,r=Lib.compact l0++List.replicate (l0.length-(Lib.compact l0).length) 0:=⟨_,rfl⟩
  have hrl:r.length=l0.length:=by rw [hr2];simp;omega
  have hW:Go.Sort.putRow (Value.int .i64) (Go.Sort.ahead w q) g 0 r.toArray=Go.Sort.grow (Go.Sort.putRow (Value.int .i64) (Go.Sort.ahead w q) g 0 r.toArray) #[]:=(Go.Sort.grow_empty _).symm
  rw [← hr2,hW]
  have hg:w.grownBy (Go.Sort.grow (Go.Sort.putRow (Value.int .i64) (Go.Sort.ahead w q) g 0 r.toArray) #[]) (some g):=grownBy_sortedI _
  have hR:Kd.R (Kd.int .i64) 3 (Go.Sort.grow (Go.Sort.putRow (Value.int .i64) (Go.Sort.ahead w q) g 0 r.toArray) #[]) w0.heap.size (fun _=>True) (.slice (some ⟨g,0,none⟩) r.length cap) r:=by
   refine ⟨fun _ _=>trivial,r.map (Value.int .i64),?_,reps_nums r⟩
   have:=ownsRow_sortedI (w:=w) (n:=q) (os:=#[]) (base:=w0.heap.size) (g:=g) (cap:=cap) (e:=3) (cur:=cur) (ss:=l0) (ts:=r) hrl hbase hh hle hcap hsz
   rw [hrl]
   exact this
  have hT:=Kd.R_take hR (m:=(Lib.compact l0).length) (by omega)
  have hE:r.take (Lib.compact l0).length=Lib.compact l0:=by rw [hr2];simp
  rw [hE] at hT
  exact ⟨_,rfl,hT,hB.grown hg hB.size (fun k hk=>by injection hk with hk;omega)⟩
def slices_Sort_int_int.f (l0:List Int):Option (List Int):=if l0.length<4611686018427387904 then some (l0.mergeSort fun x y=>decide (x≤y)) else none
theorem reps_of_nums {w:World} {base:Nat} {ok:Nat→Prop} (xs:List Int):Reps ((Kd.int .i64).M w base ok) (Kd.int .i64).sz xs (xs.map (Value.int .i64)):=by
 refine ⟨by rw [List.length_map];exact (Nat.mul_one _).symm,fun j p hj=>?_⟩
 obtain ⟨hx,rfl⟩:=List.getElem?_eq_some_iff.1 hj
 show ((xs.map (Value.int .i64)).drop (j*1)).take 1=[Value.int .i64 xs[j]]
 rw [Nat.mul_one,List.drop_eq_getElem_cons (by simpa using hx)]
 simp
theorem slices_Sort_int_int.calls (P0_ : Nat → Prop) (u9000_ : Value) (l0 : List Int) (r : List Int) (w0 w : World) (hB : Below w0.heap.size w0 w) (ho0 : Kd.R (Kd.int .i64) 3 w w0.heap.size P0_ u9000_ l0) (h : slices_Sort_int_int.f l0 = some r) :
  Calls Tryz.prog 98 #[u9000_] w fun e w'=>e = .returned (.tuple #[])∧Kd.R (Kd.int .i64) 3 w' w0.heap.size (fun k_=>(P0_ k_∨w.heap.size≤k_)) u9000_ r∧Below w0.heap.size w0 w'∧Kept w w' (fun k_=>P0_ k_):=by
 unfold slices_Sort_int_int.f at h
 by_cases hl:l0.length<4611686018427387904
 ·rw [if_pos hl] at h
  injection h with h
  obtain ⟨h0,inner,ho,hr⟩:=ho0
  have hi:=nums_of_reps hr
  subst hi
  rcases ho.2 with ⟨rfl,hn⟩|⟨g,cap,cur,rfl,hbase,hh,hle,hcap,hsz,htk⟩
  ·have hl0:l0=[]:=List.length_eq_zero_iff.mp hn
   subst hl0
   refine (AnyM.slices_Sort_int_none Tryz.sortI none 0 w).mono ?_
   rintro e w' ⟨rfl,rfl⟩
   refine ⟨rfl,?_,hB,Kept.refl _ _⟩
   have:r=[]:=by rw [← h];simp
   subst this
   exact Kd.R_nil _ _ _ _ _
  ·have hH:=holds_of_blockI (ss:=l0) hh (by rw [show l0.length*(Kd.int .i64).sz=l0.length from Nat.mul_one _] at htk;exact htk)
   have hlt:=lt_of_block hh
   refine (AnyM.slices_Sort_int Tryz.sortI g 0 cap l0 w hH hlt hl).mono ?_
   rintro e w' ⟨rfl,n,os,rfl⟩
   have hlen:r.length=l0.length:=by rw [← h];simp
   have hg:w.grownBy (Go.Sort.grow (Go.Sort.putRow (Value.int .i64) (Go.Sort.ahead w n) g 0 (l0.mergeSort fun x y=>decide (x≤y)).toArray) os) (some g):=grownBy_sortedI _
   have hok:P0_ g:=h0 g (by simp [Value.ownBlock])
   refine ⟨rfl,?_,?_,?_⟩
   ·refine ⟨fun k hk=>Or.inl (h0 k hk),r.map (Value.int .i64),?_,reps_of_nums r⟩
    have:=ownsRow_sortedI (w:=w) (n:=n) (os:=os) (base:=w0.heap.size) (g:=g) (cap:=cap) (e:=3) (cur:=cur) (ss:=l0) (ts:=r) hlen hbase hh hle hcap hsz
    rw [hlen,h]
    exact this
   ·exact hB.grown hg hB.size (fun k hk=>by injection hk with hk;omega)
   ·exact Kept.of_grown hg (Kept.refl w _) (fun k hk=>by injection hk with hk;subst hk;exact Or.inl hok)
 ·rw [if_neg hl] at h
  exact absurd h (by simp)
def tabB (l:List Int):List Int:=Lib.compact (l.mergeSort fun x y=>decide (x≤y))
theorem take_map_next {α:Type} (of:S50→α) (l:List S50) (k:Nat) (h:k<l.length):(l.take (k+1)).map of=(l.take k).map of++[of (rd_T50 l (k:Int))]:=by
 rw [List.take_add_one,List.getElem?_eq_getElem h,List.map_append]
 simp [rd_T50,List.getD_eq_getElem?_getD,h]
set_option maxHeartbeats 8000000 in
theorem table_calls (g : Nat) (of : S50 → Int) (eg : ∀ args w, (callFunc g args).run Tryz.prog w = .ok (.enter g args) w) (hof : ∀ (W : World) (x : S50), Calls Tryz.prog g #[.agg #[.int .i64 x.f0, .int .i64 x.f1, .int .i64 x.f2, .int .i64 x.f3]] W fun e w' => e = .returned (.int .i64 (of x)) ∧ Below W.heap.size W w')
  (sz:Int) (A1:Option Addr) (c1:Nat) (v2:Value) (cs:List S50) (w:World) (hr:Kd.C k50 w A1 cs.length cs) (hl:cs.length≤1000000) (h2:v2.oneCell'=true) :
  Calls Tryz.prog 73 #[.agg #[.int .i64 sz,.slice A1 cs.length c1,v2],.func (.func g) #[] #[]] w fun e w'=>∃ v,e = .returned v∧Kd.R (Kd.int .i64) 3 w' w.heap.size (fun _=>True) v (tabB (cs.map of))∧Below w.heap.size w w':=by
 have hu:=Tryz.underlying50
 have hum:=Tryz.underlying25
 have HR:=aK hr
 have HL:=aK hl
 have HOF:=aK hof
 have HB:=aK (below_alloc (Below.refl w.heap.size w) (.cells #[.int .i64 sz,.slice A1 cs.length c1,v2] 25))
 have p0:=(blk_cell (blk_new w (.cells #[.int .i64 sz,.slice A1 cs.length c1,v2] 25)) 1).trans rfl
 clear hr hl hof
 go_enter Tryz.func73,Tryz.ntmps73
 go_wp2
 clear p0
 go_loopg [5,11] cs.length (fun gg s5 s11 wr=>∃ kk:Nat,kk≤cs.length∧cs.length-kk≤gg∧s11 = .int .i64 kk∧Aside0 (Kd.R (Kd.int .i64) 3 wr w.heap.size (fun _=>True) s5 ((cs.take kk).map of))∧Aside0 (Below w.heap.size w wr))
 case atStart=>exact ⟨0,Nat.zero_le _,by omega,rfl,⟨Kd.R_nil _ _ _ _ _⟩,HB⟩
 case round =>
  clear HB
  obtain ⟨kk,hkk,hg,rfl,HO,HB⟩:=hrel
  by_cases hlt:kk<cs.length
  ·have hlti:(kk:Int)<(cs.length:Int):=by omega
   obtain ⟨ad,e1,hx0,hx1,hx2,hx3⟩:=at_T50 HR.out (kk:Int) (by omega) hlti
   replace hx0:=(HB.out.cell (World.block_lt_of_cell? w _ hx0)).trans hx0
   replace hx1:=(HB.out.cell (World.block_lt_of_cell? w _ hx1)).trans hx1
   replace hx2:=(HB.out.cell (World.block_lt_of_cell? w _ hx2)).trans hx2
   replace hx3:=(HB.out.cell (World.block_lt_of_cell? w _ hx3)).trans hx3
   simp only [Int.toNat_natCast] at hx0 hx1 hx2 hx3
   have HN:=aK (take_map_next of cs kk hlt)
   generalize rd_T50 cs (kk:Int)=x at *
   generalize hys:(cs.take (kk+1)).map of=ys at HN
   generalize hxs:(cs.take kk).map of=xs at HO HN
   have HYS:=aK hys
   have HXL:Aside0 (xs.length≤1000000):=⟨by rw [← hxs];simp;have:=HL.out;omega⟩
   have HS:=aK (show w.heap.size≤wr.heap.size from HB.out.size)
   have HB1:=aK (below_alloc HB.out (.cells #[.int .i64 x.f0,.int .i64 x.f1,.int .i64 x.f2,.int .i64 x.f3] 50))
   have hcall:=HOF.out (wr.alloc (.cells #[.int .i64 x.f0,.int .i64 x.f1,.int .i64 x.f2,.int .i64 x.f3] 50)) x
   generalize of x=y at *
   have HW:=aK (show wrap64 ((kk:Int)+1)=((kk+1:Nat):Int) by have:=HL.out;unfold wrap64;omega)
   clear hys hxs
   subst e1
   obtain ⟨A9,c9,rfl⟩:=Kd.R_slice HO.out
   go_wp2_with fail
   refine hcall.mono ?_
   clear hcall
   rintro e w3 ⟨rfl,hb3⟩
   have HO3:=aK (Kd.R_below (Kd.R_alloc HO.out (.cells #[.int .i64 x.f0,.int .i64 x.f1,.int .i64 x.f2,.int .i64 x.f3] 50)) hb3)
   have HB3:=aK (below_step HB1.out hb3)
   clear hx0 hx1 hx2 hx3 hb3
   go_wp2_with ((with_reducible refine gate_builtin (b:=.append) (xs:=#[.tmp 15,.tmp 19]) rfl ?_);at_builtin;refine Kd.R_append_rows (Kd.int .i64) (w0:=w) w.heap.size rfl (.tmp 15) (.tmp 19) 48 3 (.int .i64 0) 8 rfl Tryz.underlying48 info3 rfl (by decide) (by omega) (.slice A9 xs.length c9) xs [y] (some ⟨w3.heap.size,0,none⟩) 1 1 (fun _=>True) (fun _=>False) rfl rfl ?aO ?aR (fun _ _ h=>h) (fun _ h=>h.elim) (fun _ _=>trivial) ?aB ?aS ?aL ?_;(case aO=>exact Kd.R_alloc HO3.out _);(case aR=>exact lit_C w3 3 [y] (by simp));(case aB=>exact below_alloc HB3.out _);(case aS=>have:=HB3.out.size;simp;omega);(case aL=>have:=HXL.out;omega);intro v1 w1 ho hb hg hat;rw [← HN.out] at ho;obtain ⟨A1,c1,rfl⟩:=Kd.R_slice ho;have HO1:=aK ho;have HB4:=aK hb;clear ho hb hg hat)
   go_roundg (cs.length-(kk+1))
   case measure=>omega
   case rel=>exact ⟨kk+1,by omega,by omega,congrArg (Value.int .i64) HW.out,⟨by rw [HYS.out];exact HO1.out⟩,HB4⟩
  ·obtain rfl:kk=cs.length:=by omega
   have hlti : ¬ (cs.length:Int)<(cs.length:Int):=by omega
   have hT:(cs.take cs.length).map of=cs.map of:=by rw [List.take_length]
   rw [hT] at HO
   have HL2:Aside0 ((cs.map of).length≤1000000):=⟨by rw [List.length_map];exact HL.out⟩
   obtain ⟨l,hl⟩ : ∃ l,l=cs.map of:=⟨_,rfl⟩
   have HQ:=aK hl
   rw [← hl] at HO HL2
   clear hT hl
   obtain ⟨A9,c9,rfl⟩:=Kd.R_slice HO.out
   have hms:(l.mergeSort fun x y=>decide (x≤y)).length=l.length:=by simp
   have hs:=slices_Sort_int_int.calls (fun _=>True) (.slice A9 l.length c9) l (l.mergeSort fun x y=>decide (x≤y)) w wr HB.out HO.out (by unfold slices_Sort_int_int.f;rw [if_pos (by have:=HL2.out;omega)])
   have HM:=aK hms
   clear hms
   go_wp2_with fail
   refine hs.mono ?_
   rintro e w3 ⟨rfl,ho3,hb3,-⟩
   have hc:=compactI_calls (.slice A9 l.length c9) _ w w3 hb3 (Kd.R_mono ho3 (fun _ _=>trivial)) (by rw [HM.out];have:=HL2.out;omega)
   clear hs ho3 hb3
   go_wp2_with fail
   refine hc.mono ?_
   rintro e w4 ⟨v,rfl,ho4,hb4⟩
   have HO4:=aK ho4
   have HB4:=aK hb4
   obtain ⟨A8,c8,rfl⟩:=Kd.R_slice ho4
   clear hc ho4 hb4
   go_wp2
   go_ret
   exact ⟨_,rfl,by unfold tabB;rw [← HQ.out];exact HO4.out,HB4.out⟩
set_option maxHeartbeats 4000000 in
theorem fileTwo (w0 : World) (b : Nat) (n : Int) (l : List Int) (W : World) (hB : Below w0.heap.size w0 W) (hbb : w0.heap.size ≤ b) (hF : FileAt W w0.heap.size b l) (hl : l.length ≤ 1000000000) :
  Calls Tryz.prog 74 #[.pointer (some ⟨b,0,none⟩),.int .i64 n] W fun e w'=>e = .returned (.tuple #[])∧FileAt w' w0.heap.size b (l++be2 n)∧Below w0.heap.size w0 w'∧KeepF W w' b:=by
 have hu:=Tryz.underlying98
 obtain ⟨v,hb,ho⟩:=hF
 obtain ⟨A0,c0,rfl⟩:=Kd.R_slice ho
 have HL:=aK hl
 have HB:=aK hB
 have HO:=aK ho
 have HK:=aK hb
 have HS:=aK (show w0.heap.size≤W.heap.size from hB.size)
 have HBB:=aK hbb
 have p0:=(blk_cell hb 0).trans rfl
 have p1:=(blk_cell (blk_alloc hb (.cells #[.int .u8 (n / 256 % 256),.int .u8 (n % 256)] 5)) 0).trans rfl
 clear hb ho hB hl hbb
 go_enter Tryz.func74,Tryz.ntmps74
 go_wp2_with ((with_reducible refine gate_builtin (b:=.append) (xs:=#[.tmp 8,.tmp 14]) rfl ?_);at_builtin;refine Kd.R_append_rows (Kd.int .u8) (w0:=w0) w0.heap.size rfl (.tmp 8) (.tmp 14) 28 5 (.int .u8 0) 1 rfl Tryz.underlying28 info5 rfl (by decide) (by omega) (.slice A0 l.length c0) l (be2 n) (some ⟨W.heap.size,0,none⟩) 2 2 (fun _=>True) (fun _=>False) rfl rfl ?aO ?aR (fun _ _ h=>h) (fun _ h=>h.elim) (fun _ _=>trivial) ?aB ?aS ?aL ?_;(case aO=>exact Kd.R_alloc HO.out _);(case aR=>exact lit_C8 W 5 (be2 n) (by simp only [be2,List.length_cons,List.length_nil];omega));(case aB=>exact below_alloc HB.out _);(case aS=>have:=HS.out;simp;omega);(case aL=>have:=HL.out;omega);intro v1 w1 ho hb hg hat;obtain ⟨A1,c1,rfl⟩:=Kd.R_slice ho;have hg':=grown_alloc (o:=.cells #[.int .u8 (n / 256 % 256),.int .u8 (n % 256)] 5) HO.out hg;have hne:=Kd.R_ne HO.out HK.out (by decide);have q0:=(blk_cell (blk_grown HK.out hg' hne) 0).trans rfl;have q1:=blk_frozen (blk_grown HK.out hg' hne) 0;have HFP:=aK (file_put HK.out HO.out ho hb hg' HBB.out);clear ho hb hg hg' hat hne)
 go_end0
 have h:=HFP.out
 rw [List.length_append] at h
 exact ⟨rfl,h⟩
def slices_isNaN_int.f (a0:Int):Option (Bool):=some (a0 != a0)
set_option maxHeartbeats 8000000 in
theorem slices_isNaN_int.calls (a0 : Int) (r : Bool) (w : World) (h : slices_isNaN_int.f a0 = some r) :
  Calls Tryz.prog 101 #[.int .i64 a0] w fun e w'=>e = .returned (.bool r)∧Drawn0 w w':=by
 have H:(some (a0 != a0))=some r:=h
 clear h
 obtain rfl:=Option.some.inj H
 go_enter Tryz.func101,Tryz.ntmps101
 go_wp2
 go_ret
 exact ⟨by first|rfl|(simp;done)|(simp [*];done),by repeat (first|exact Drawn0.refl _|apply Drawn0.step)⟩
def slices_BinarySearch_int_int.l0 : Nat → List Int → Int → Int → Int → Int → Option (Int × Bool)
 | 0,_,_,_,_,_=>none
 | k+1,x0,x1,x6,x7,x8=>if x7<x8 then (if 0≤(wrap64 ((IntKind.u64.wrap (wrap64 (x7+x8))) / 2)) then (if (wrap64 ((IntKind.u64.wrap (wrap64 (x7+x8))) / 2))<(x0.length:Int) then ((cmp_Less_int.f (rd x0 (wrap64 ((IntKind.u64.wrap (wrap64 (x7+x8))) / 2))) x1).bind fun t122=>(if t122=true then (slices_BinarySearch_int_int.l0 k x0 x1 x6 (wrap64 ((wrap64 ((IntKind.u64.wrap (wrap64 (x7+x8))) / 2))+1)) x8) else (slices_BinarySearch_int_int.l0 k x0 x1 x6 x7 (wrap64 ((IntKind.u64.wrap (wrap64 (x7+x8))) / 2))))) else (none)) else (none)) else (if x7<x6 then (if 0≤x7 then (if x7<(x0.length:Int) then (if (rd x0 x7)=x1 then (some (x7,true)) else ((slices_isNaN_int.f (rd x0 x7)).bind fun t125=>(if t125=true then ((slices_isNaN_int.f x1).bind fun t126=>(some (x7,t126))) else (some (x7,false))))) else (none)) else (none)) else (some (x7,false)))
def slices_BinarySearch_int_int.f (k:Nat) (l0:List Int) (a1:Int):Option (Int×Bool):=slices_BinarySearch_int_int.l0 k l0 a1 (l0.length:Int) 0 (l0.length:Int)
theorem slices_BinarySearch_int_int.mono_l : ∀ k, (∀ y0 y1 y2 y3 y4, LeO (slices_BinarySearch_int_int.l0 k y0 y1 y2 y3 y4) (slices_BinarySearch_int_int.l0 (k + 1) y0 y1 y2 y3 y4))
 | 0=>fun _ _ _ _ _ r h=>by simp [slices_BinarySearch_int_int.l0] at h
 | k+1=>by
  have ih0:=slices_BinarySearch_int_int.mono_l k
  ·intro y0 y1 y2 y3 y4
   unfold slices_BinarySearch_int_int.l0
   repeat' first
   | (with_reducible exact ih0 _ _ _ _ _)
   | (with_reducible exact LeO.refl _)
   | (with_reducible exact LeO.none _)
   | (with_reducible refine LeO.ite ?_ ?_)
   | (with_reducible refine LeO.bind ?_ (fun _=>?_))
   | exact ih0 _ _ _ _ _
   | exact LeO.none _
   | refine LeO.ite ?_ ?_
   | refine LeO.bind ?_ (fun _=>?_)
theorem slices_BinarySearch_int_int.mono : ∀ a0 a1 k,LeO (slices_BinarySearch_int_int.f k a0 a1) (slices_BinarySearch_int_int.f (k+1) a0 a1):=by
 intro a0 a1 k
 have ih0:=slices_BinarySearch_int_int.mono_l k
 unfold slices_BinarySearch_int_int.f
 repeat' first
   | (with_reducible exact ih0 _ _ _ _ _)
   | (with_reducible exact LeO.refl _)
   | (with_reducible exact LeO.none _)
   | (with_reducible refine LeO.ite ?_ ?_)
   | (with_reducible refine LeO.bind ?_ (fun _=>?_))
   | exact ih0 _ _ _ _ _
   | exact LeO.none _
   | refine LeO.ite ?_ ?_
   | refine LeO.bind ?_ (fun _=>?_)
set_option maxHeartbeats 8000000 in
theorem slices_BinarySearch_int_int.calls (k : Nat) (A0 : Option Addr) (c0 : Nat) (l0 : List Int) (a1 : Int) (r1 : Int) (r2 : Bool) (w : World) (hr0 : Kd.C (Kd.int .i64) w A0 l0.length l0) (hc0 : l0.length ≤ c0) (h : slices_BinarySearch_int_int.f k l0 a1 = some (r1, r2)) :
  Calls Tryz.prog 76 #[.slice A0 l0.length c0,.int .i64 a1] w fun e w'=>e = .returned (.tuple #[.int .i64 r1,.bool r2])∧Drawn0 w w':=by
 have HR0:=aK hr0
 have HC0:=aK hc0
 clear hr0 hc0
 have H:(slices_BinarySearch_int_int.l0 k l0 a1 (l0.length:Int) 0 (l0.length:Int))=some (r1,r2):=h
 clear h
 have H':=aK H
 clear H
 go_enter Tryz.func76,Tryz.ntmps76
 go_wp2
 go_loopg [7,8] k (fun kq v7 v8 w'=>∃ (x7_1:Int) (x8_1:Int),v7 = .int .i64 x7_1∧v8 = .int .i64 x8_1∧Aside0 (slices_BinarySearch_int_int.l0 kq l0 a1 (l0.length:Int) x7_1 x8_1=some (r1,r2))∧Aside0 (kq≤k)∧Drawn0 w w')
 case atStart=>exact ⟨(0),((l0.length:Int)),(by first|rfl|(simp;done)|(simp [*];done)),(by first|rfl|(simp;done)|(simp [*];done)),H',⟨Nat.le_refl _⟩,by repeat (first|exact Drawn0.refl _|apply Drawn0.step)⟩
 case round =>
  clear H'
  try clear p2
  obtain ⟨x7_1,x8_1,rfl,rfl,HA,HK1,⟨m1,rfl⟩⟩:=hrel
  cases gk with
  | zero=>exact absurd HA.out (by simp [slices_BinarySearch_int_int.l0])
  | succ k1 =>
   have H:=HA.out
   clear HA
   simp only [slices_BinarySearch_int_int.l0] at H
   by_cases c3:x7_1<x8_1
   ·rw [if_pos c3] at H
    have c3b0:decide (x7_1<x8_1)=true:=decide_eq_true c3
    clear c3
    obtain ⟨ji4,hji4⟩ : ∃ j_:Int,(wrap64 ((IntKind.u64.wrap (wrap64 (x7_1+x8_1))) / 2))=j_:=⟨_,rfl⟩
    replace H:(if 0≤(ji4) then (if (ji4)<(l0.length:Int) then ((cmp_Less_int.f (rd l0 (ji4)) a1).bind fun t122=>(if t122=true then (slices_BinarySearch_int_int.l0 k1 l0 a1 (l0.length:Int) (wrap64 ((ji4)+1)) x8_1) else (slices_BinarySearch_int_int.l0 k1 l0 a1 (l0.length:Int) x7_1 ji4))) else (none)) else (none))=some (r1,r2):=by first|(rw [hji4] at H;exact H)|(simp only [hji4] at H ⊢;exact H)
    have hji4w:(IntKind.i64.wrap ((IntKind.u64.wrap (wrap64 (x7_1+x8_1))) / 2))=ji4:=(i64_w _).trans hji4
    by_cases c5:0≤(ji4)
    ·rw [if_pos c5] at H
     have c5b0:decide (0≤(ji4))=true:=decide_eq_true c5
     clear c5
     by_cases c6:(ji4)<(l0.length:Int)
     ·rw [if_pos c6] at H
      have c6b0:decide ((ji4)<(l0.length:Int))=true:=decide_eq_true c6
      clear c6
      replace H:=Option.bind_eq_some_iff.mp H
      obtain ⟨t122,A70,H⟩:=H
      replace H:(if t122=true then (slices_BinarySearch_int_int.l0 k1 l0 a1 (l0.length:Int) (wrap64 ((ji4)+1)) x8_1) else (slices_BinarySearch_int_int.l0 k1 l0 a1 (l0.length:Int) x7_1 ji4))=some (r1,r2):=H
      have A7:=aK A70
      clear A70
      by_cases c8:t122=true
      ·subst c8
       have H1:(slices_BinarySearch_int_int.l0 k1 l0 a1 (l0.length:Int) (wrap64 ((ji4)+1)) x8_1)=some (r1,r2):=by rw [if_pos rfl] at H;exact H
       clear H
       have H:=H1
       clear H1
       have H':=aK H
       clear H
       have p121:0≤((ji4):Int):=of_decide_eq_true (by first|(with_reducible assumption)|assumption)
       have q121:(ji4)<(l0.length:Int):=of_decide_eq_true (by first|(with_reducible assumption)|assumption)
       obtain ⟨ad121,e121,hx121_0⟩:=Kd.at_int HR0.out (ji4) p121 q121
       cases e121
       replace p121:=eq_true p121
       replace q121:=eq_true q121
       go_wp2_with (first|((with_reducible refine gate_callee (f:=100) rfl ?_);refine goesL_ (some 27) rfl rfl Tryz.func100 (by kernel_rfl) rfl #[.int .i64 (rd l0 (ji4)),.int .i64 a1] rfl (by (try simp only [List.map_toArray,List.map_cons,List.map_nil]);first|done|(simp only [hji4];rfl)|rfl|(simp only [List.length_drop,List.length_take];rfl)) ?_;(with_reducible refine (cmp_Less_int.calls (rd l0 (ji4)) a1 true _ A7.out).mono ?_);rintro e w' ⟨rfl,⟨nd,rfl⟩⟩;refine ⟨_,rfl,?_⟩))
       go_roundg k1
       case measure=>have:=HK1.out;omega
       case rel=>exact ⟨(wrap64 ((ji4)+1)),(x8_1),(by first|rfl|(simp;done)|(simp only [← hji4] <;> (first|rfl|simp))|(simp [*];done)),(by first|rfl|(simp;done)|(simp [*];done)),H',⟨by have:=HK1.out;omega⟩,by repeat (first|exact Drawn0.refl _|apply Drawn0.step)⟩
      ·replace c8:=Bool.eq_false_iff.mpr c8
       subst c8
       have H1:(slices_BinarySearch_int_int.l0 k1 l0 a1 (l0.length:Int) x7_1 ji4)=some (r1,r2):=by rw [if_neg (show ¬ (false=true) by decide)] at H;exact H
       clear H
       have H:=H1
       clear H1
       have H':=aK H
       clear H
       have p121:0≤((ji4):Int):=of_decide_eq_true (by first|(with_reducible assumption)|assumption)
       have q121:(ji4)<(l0.length:Int):=of_decide_eq_true (by first|(with_reducible assumption)|assumption)
       obtain ⟨ad121,e121,hx121_0⟩:=Kd.at_int HR0.out (ji4) p121 q121
       cases e121
       replace p121:=eq_true p121
       replace q121:=eq_true q121
       go_wp2_with (first|((with_reducible refine gate_callee (f:=100) rfl ?_);refine goesL_ (some 27) rfl rfl Tryz.func100 (by kernel_rfl) rfl #[.int .i64 (rd l0 (ji4)),.int .i64 a1] rfl (by (try simp only [List.map_toArray,List.map_cons,List.map_nil]);first|done|(simp only [hji4];rfl)|rfl|(simp only [List.length_drop,List.length_take];rfl)) ?_;(with_reducible refine (cmp_Less_int.calls (rd l0 (ji4)) a1 false _ A7.out).mono ?_);rintro e w' ⟨rfl,⟨nd,rfl⟩⟩;refine ⟨_,rfl,?_⟩))
       go_roundg k1
       case measure=>have:=HK1.out;omega
       case rel=>exact ⟨(x7_1),(ji4),(by first|rfl|(simp;done)|(simp [*];done)),(by first|rfl|(simp;done)|(simp only [← hji4] <;> (first|rfl|simp))|(simp [*];done)),H',⟨by have:=HK1.out;omega⟩,by repeat (first|exact Drawn0.refl _|apply Drawn0.step)⟩
     ·rw [if_neg c6] at H
      exact absurd H (by simp)
    ·rw [if_neg c5] at H
     exact absurd H (by simp)
   ·rw [if_neg c3] at H
    have c3b0:decide (x7_1<x8_1)=false:=decide_eq_false c3
    clear c3
    by_cases c9:x7_1<(l0.length:Int)
    ·rw [if_pos c9] at H
     have c9b0:decide (x7_1<(l0.length:Int))=true:=decide_eq_true c9
     clear c9
     by_cases c10:0≤x7_1
     ·rw [if_pos c10] at H
      have c10b0:decide (0≤x7_1)=true:=decide_eq_true c10
      clear c10
      by_cases c11:x7_1<(l0.length:Int)
      ·rw [if_pos c11] at H
       have c11b0:decide (x7_1<(l0.length:Int))=true:=decide_eq_true c11
       clear c11
       by_cases c12:(rd l0 x7_1)=a1
       ·rw [if_pos c12] at H
        have c12b0:((rd l0 x7_1) == a1)=true:=beq_iff_eq.mpr c12
        have c12b1:((rd l0 x7_1) != a1)=false:=bne_eq_false_iff_eq.mpr c12
        clear c12
        simp only [Option.some.injEq,Prod.mk.injEq] at H
        obtain ⟨rfl,rfl⟩:=H
        have p123:0≤(x7_1:Int):=of_decide_eq_true (by first|(with_reducible assumption)|assumption)
        have q123:x7_1<(l0.length:Int):=of_decide_eq_true (by first|(with_reducible assumption)|assumption)
        obtain ⟨ad123,e123,hx123_0⟩:=Kd.at_int HR0.out x7_1 p123 q123
        cases e123
        replace p123:=eq_true p123
        replace q123:=eq_true q123
        go_wp2
        go_ret2
        exact ⟨by first|rfl|(simp;done)|(simp [*];done),by repeat (first|exact Drawn0.refl _|apply Drawn0.step)⟩
       ·rw [if_neg c12] at H
        have c12b0:((rd l0 x7_1) == a1)=false:=beq_eq_false_iff_ne.mpr c12
        have c12b1:((rd l0 x7_1) != a1)=true:=bne_iff_ne.mpr c12
        replace H:=Option.bind_eq_some_iff.mp H
        obtain ⟨t125,A130,H⟩:=H
        replace H:(if t125=true then ((slices_isNaN_int.f a1).bind fun t126=>(some (x7_1,t126))) else (some (x7_1,false)))=some (r1,r2):=H
        have A13:=aK A130
        clear A130
        by_cases c14:t125=true
        ·subst c14
         have H1:((slices_isNaN_int.f a1).bind fun t126=>(some (x7_1,t126)))=some (r1,r2):=by rw [if_pos rfl] at H;exact H
         clear H
         have H:=H1
         clear H1
         replace H:=Option.bind_eq_some_iff.mp H
         obtain ⟨t126,A150,H⟩:=H
         replace H:(some (x7_1,t126))=some (r1,r2):=H
         have A15:=aK A150
         clear A150
         simp only [Option.some.injEq,Prod.mk.injEq] at H
         obtain ⟨rfl,rfl⟩:=H
         have p123:0≤(x7_1:Int):=of_decide_eq_true (by first|(with_reducible assumption)|assumption)
         have q123:x7_1<(l0.length:Int):=of_decide_eq_true (by first|(with_reducible assumption)|assumption)
         obtain ⟨ad123,e123,hx123_0⟩:=Kd.at_int HR0.out x7_1 p123 q123
         cases e123
         replace p123:=eq_true p123
         replace q123:=eq_true q123
         have p124:0≤(x7_1:Int):=of_decide_eq_true (by first|(with_reducible assumption)|assumption)
         have q124:x7_1<(l0.length:Int):=of_decide_eq_true (by first|(with_reducible assumption)|assumption)
         obtain ⟨ad124,e124,hx124_0⟩:=Kd.at_int HR0.out x7_1 p124 q124
         obtain rfl:ad123=ad124:=(by injection e124)
         replace p124:=eq_true p124
         replace q124:=eq_true q124
         go_wp2_with (first|(go_at_call 101;(with_reducible refine (slices_isNaN_int.calls (rd l0 x7_1) true _ A13.out).mono ?_);rintro e w' ⟨rfl,⟨nd,rfl⟩⟩)|(go_at_call 101;(with_reducible refine (slices_isNaN_int.calls a1 t126 _ A15.out).mono ?_);rintro e w' ⟨rfl,⟨nd,rfl⟩⟩))
         go_ret2
         exact ⟨by first|rfl|(simp;done)|(simp [*];done),by repeat (first|exact Drawn0.refl _|apply Drawn0.step)⟩
        ·replace c14:=Bool.eq_false_iff.mpr c14
         subst c14
         have H1:(some (x7_1,false))=some (r1,r2):=by rw [if_neg (show ¬ (false=true) by decide)] at H;exact H
         clear H
         have H:=H1
         clear H1
         simp only [Option.some.injEq,Prod.mk.injEq] at H
         obtain ⟨rfl,rfl⟩:=H
         have p123:0≤(x7_1:Int):=of_decide_eq_true (by first|(with_reducible assumption)|assumption)
         have q123:x7_1<(l0.length:Int):=of_decide_eq_true (by first|(with_reducible assumption)|assumption)
         obtain ⟨ad123,e123,hx123_0⟩:=Kd.at_int HR0.out x7_1 p123 q123
         cases e123
         replace p123:=eq_true p123
         replace q123:=eq_true q123
         have p124:0≤(x7_1:Int):=of_decide_eq_true (by first|(with_reducible assumption)|assumption)
         have q124:x7_1<(l0.length:Int):=of_decide_eq_true (by first|(with_reducible assumption)|assumption)
         obtain ⟨ad124,e124,hx124_0⟩:=Kd.at_int HR0.out x7_1 p124 q124
         obtain rfl:ad123=ad124:=(by injection e124)
         replace p124:=eq_true p124
         replace q124:=eq_true q124
         go_wp2_with (first|(go_at_call 101;(with_reducible refine (slices_isNaN_int.calls (rd l0 x7_1) false _ A13.out).mono ?_);rintro e w' ⟨rfl,⟨nd,rfl⟩⟩))
         go_ret2
         exact ⟨by first|rfl|(simp;done)|(simp [*];done),by repeat (first|exact Drawn0.refl _|apply Drawn0.step)⟩
      ·rw [if_neg c11] at H
       exact absurd H (by simp)
     ·rw [if_neg c10] at H
      exact absurd H (by simp)
    ·rw [if_neg c9] at H
     have c9b0:decide (x7_1<(l0.length:Int))=false:=decide_eq_false c9
     clear c9
     simp only [Option.some.injEq,Prod.mk.injEq] at H
     obtain ⟨rfl,rfl⟩:=H
     go_wp2
     go_ret2
     exact ⟨by first|rfl|(simp;done)|(simp [*];done),by repeat (first|exact Drawn0.refl _|apply Drawn0.step)⟩
def metric_Sum.l0 : Nat → Int → List Int → Int → Int → Option (Int)
 | 0,_,_,_,_=>none
 | k+1,x3,x6,x7,x8=>if x8<x7 then (if 0≤x8 then (if x8<(x6.length:Int) then (metric_Sum.l0 k ((x3+((((wrap64 (x8+1)) % 4294967296)*((rd x6 x8) % 4294967296)) % 4294967296)) % 4294967296) x6 x7 (wrap64 (x8+1))) else (none)) else (none)) else (some (wrap64 (x3)))
def metric_Sum.f (k:Nat) (l0:List Int):Option (Int):=metric_Sum.l0 k 0 l0 (l0.length:Int) 0
theorem metric_Sum.mono_l : ∀ k, (∀ y0 y1 y2 y3, LeO (metric_Sum.l0 k y0 y1 y2 y3) (metric_Sum.l0 (k + 1) y0 y1 y2 y3))
 | 0=>fun _ _ _ _ r h=>by simp [metric_Sum.l0] at h
 | k+1=>by
  have ih0:=metric_Sum.mono_l k
  ·intro y0 y1 y2 y3
   unfold metric_Sum.l0
   repeat' first
   | (with_reducible exact ih0 _ _ _ _)
   | (with_reducible exact LeO.refl _)
   | (with_reducible exact LeO.none _)
   | (with_reducible refine LeO.ite ?_ ?_)
   | (with_reducible refine LeO.bind ?_ (fun _=>?_))
   | exact ih0 _ _ _ _
   | exact LeO.none _
   | refine LeO.ite ?_ ?_
   | refine LeO.bind ?_ (fun _=>?_)
theorem metric_Sum.mono : ∀ a0 k,LeO (metric_Sum.f k a0) (metric_Sum.f (k+1) a0):=by
 intro a0 k
 have ih0:=metric_Sum.mono_l k
 unfold metric_Sum.f
 repeat' first
   | (with_reducible exact ih0 _ _ _ _)
   | (with_reducible exact LeO.refl _)
   | (with_reducible exact LeO.none _)
   | (with_reducible refine LeO.ite ?_ ?_)
   | (with_reducible refine LeO.bind ?_ (fun _=>?_))
   | exact ih0 _ _ _ _
   | exact LeO.none _
   | refine LeO.ite ?_ ?_
   | refine LeO.bind ?_ (fun _=>?_)
set_option maxHeartbeats 8000000 in
theorem metric_Sum.calls (k : Nat) (A0 : Option Addr) (c0 : Nat) (l0 : List Int) (r : Int) (w : World) (hr0 : Kd.C (Kd.int .u8) w A0 l0.length l0) (hc0 : l0.length ≤ c0) (h : metric_Sum.f k l0 = some r) :
  Calls Tryz.prog 102 #[.slice A0 l0.length c0] w fun e w'=>e = .returned (.int .i64 r)∧Drawn0 w w':=by
 have HR0:=aK hr0
 have HC0:=aK hc0
 clear hr0 hc0
 have H:(metric_Sum.l0 k 0 l0 (l0.length:Int) 0)=some r:=h
 clear h
 have H':=aK H
 clear H
 go_enter Tryz.func102,Tryz.ntmps102
 go_wp2
 go_loopg [3,8] k (fun kq v3 v8 w'=>∃ (x3_1:Int) (x8_1:Int),v3 = .int .u32 x3_1∧v8 = .int .i64 x8_1∧Aside0 (metric_Sum.l0 kq x3_1 l0 (l0.length:Int) x8_1=some r)∧Aside0 (kq≤k)∧Drawn0 w w')
 case atStart=>exact ⟨(0),(0),(by first|rfl|(simp;done)|(simp [*];done)),(by first|rfl|(simp;done)|(simp [*];done)),H',⟨Nat.le_refl _⟩,by repeat (first|exact Drawn0.refl _|apply Drawn0.step)⟩
 case round =>
  clear H'
  try clear c1
  obtain ⟨x3_1,x8_1,rfl,rfl,HA,HK1,⟨m1,rfl⟩⟩:=hrel
  cases gk with
  | zero=>exact absurd HA.out (by simp [metric_Sum.l0])
  | succ k1 =>
   have H:=HA.out
   clear HA
   simp only [metric_Sum.l0] at H
   by_cases c2:x8_1<(l0.length:Int)
   ·rw [if_pos c2] at H
    have c2b0:decide (x8_1<(l0.length:Int))=true:=decide_eq_true c2
    clear c2
    by_cases c3:0≤x8_1
    ·rw [if_pos c3] at H
     have c3b0:decide (0≤x8_1)=true:=decide_eq_true c3
     clear c3
     by_cases c4:x8_1<(l0.length:Int)
     ·rw [if_pos c4] at H
      have c4b0:decide (x8_1<(l0.length:Int))=true:=decide_eq_true c4
      clear c4
      have H':=aK H
      clear H
      have p127:0≤(x8_1:Int):=of_decide_eq_true (by first|(with_reducible assumption)|assumption)
      have q127:x8_1<(l0.length:Int):=of_decide_eq_true (by first|(with_reducible assumption)|assumption)
      obtain ⟨ad127,e127,hx127_0⟩:=Kd.at_int HR0.out x8_1 p127 q127
      cases e127
      replace p127:=eq_true p127
      replace q127:=eq_true q127
      go_wp2
      go_roundg k1
      case measure=>have:=HK1.out;omega
      case rel=>exact ⟨((x3_1+((((wrap64 (x8_1+1)) % 4294967296)*((rd l0 x8_1) % 4294967296)) % 4294967296)) % 4294967296),(wrap64 (x8_1+1)),(by first|rfl|(simp;done)|(simp [*];done)),(by first|rfl|(simp;done)|(simp [*];done)),H',⟨by have:=HK1.out;omega⟩,by repeat (first|exact Drawn0.refl _|apply Drawn0.step)⟩
     ·rw [if_neg c4] at H
      exact absurd H (by simp)
    ·rw [if_neg c3] at H
     exact absurd H (by simp)
   ·rw [if_neg c2] at H
    have c2b0:decide (x8_1<(l0.length:Int))=false:=decide_eq_false c2
    clear c2
    obtain rfl:=Option.some.inj H
    go_wp2
    go_ret
    exact ⟨by first|rfl|(simp;done)|(simp [*];done),by repeat (first|exact Drawn0.refl _|apply Drawn0.step)⟩
end Go.Proofs.YtoemkemmiikhlaaGreat.PF3
