import Derived.Test.YtoemkemmiikhlaaGreatPF2x0
import Derived.Test.YtoemkemmiikhlaaGreatPF2x1
import Derived.Test.YtoemkemmiikhlaaGreatPF2x3
import Derived.Test.YtoemkemmiikhlaaGreatPF2x5
import Derived.Test.YtoemkemmiikhlaaGreatPF2x8
import Derived.Test.YtoemkemmiikhlaaGreatPF2x11
import Derived.Test.YtoemkemmiikhlaaGreatPF2x12
import Derived.Test.YtoemkemmiikhlaaGreatPF2x13
import Derived.Test.YtoemkemmiikhlaaGreatPF2x14
import Derived.Test.YtoemkemmiikhlaaGreatPF2x16
import Derived.Test.YtoemkemmiikhlaaGreatPF2x19
import Derived.Test.YtoemkemmiikhlaaGreatPF2x20
import Derived.Test.YtoemkemmiikhlaaGreatPF2x21
set_option maxRecDepth 100000
namespace Go.Proofs.YtoemkemmiikhlaaGreat.PF2
open Go.RowKit Go.Proofs.YtoemkemmiikhlaaGreatW.PrintWords Go.Proofs.YtoemkemmiikhlaaGreatW.PrintLast Go.Proofs.YtoemkemmiikhlaaGreatW.PrintMore
attribute [local go_sem] max2_int min2_int max_two min_two max_three min_three max_four min_four
set_option linter.unusedVariables false
set_option linter.unusedSimpArgs false
set_option maxHeartbeats 8000000 in
theorem refBox_calls (k : Nat) (sz : Int) (A1 : Option Addr) (c1 : Nat) (cs : List S50) (A2 : Option Addr) (c2 : Nat) (rs : List S45) (A3 : Option Addr) (c3 : Nat) (codes : List Int) (w : World)
  (hr1:Kd.C k50 w A1 cs.length cs) (hc1:cs.length≤c1) (hr2:Kd.C k45 w A2 rs.length rs) (hc2:rs.length≤c2) (hr3:Kd.C (Kd.int .i64) w A3 codes.length codes) (hl3:codes.length≤1000000)
  (hval:fleuronref27_Valid.f k sz cs rs=some (validM sz cs rs)) (hfind : ∀ n,fleuronref27_Find.f k sz cs rs n=some ((findM sz cs rs n).1.f0,(findM sz cs rs n).1.f1,(findM sz cs rs n).1.f2,(findM sz cs rs n).1.f3,(findM sz cs rs n).2)) :
  Calls Tryz.prog 27 #[.agg #[.int .i64 sz,.slice A1 cs.length c1,.slice A2 rs.length c2],.slice A3 codes.length c3] w fun e w'=>e = .returned (.tuple #[.agg #[.int .i64 (boxM sz cs rs codes).1.1,.int .i64 (boxM sz cs rs codes).1.2.1,.int .i64 (boxM sz cs rs codes).1.2.2],.int .i64 (boxM sz cs rs codes).2])∧Below w.heap.size w w':=by
 have hu:=Tryz.underlying25
 have hu47:=Tryz.underlying47
 have hu50:=Tryz.underlying50
 have HR1:=aK hr1
 have HR2:=aK hr2
 have HR3:=aK hr3
 have HC1:=aK hc1
 have HC2:=aK hc2
 have HL3:=aK hl3
 have HFI:=aK hfind
 have hc:=fun V (h1:Kd.C k50 V A1 cs.length cs) (h2:Kd.C k45 V A2 rs.length rs)=>fleuronref27_Valid.calls k sz A1 c1 cs A2 c2 rs (validM sz cs rs) V h1 hc1 h2 hc2 hval
 have HM:=aK (blk_alloc (blk_new w (.cells #[.int .i64 sz,.slice A1 cs.length c1,.slice A2 rs.length c2] 25)) (.cells #[.int .i64 0,.int .i64 0,.int .i64 0] 47))
 have hq:=blk_new (w.alloc (.cells #[.int .i64 sz,.slice A1 cs.length c1,.slice A2 rs.length c2] 25)) (.cells #[.int .i64 0,.int .i64 0,.int .i64 0] 47)
 simp only [World.size_alloc] at hq
 obtain ⟨b2,hb2⟩ : ∃ b2,b2=w.heap.size:=⟨_,rfl⟩
 obtain ⟨b4,hb4⟩ : ∃ b4,b4=w.heap.size+1:=⟨_,rfl⟩
 rw [← hb4] at hq
 rw [← hb2] at HM
 have HQ:=aK hq
 have HB:=aK (below_alloc (below_alloc (Below.refl w.heap.size w) (.cells #[.int .i64 sz,.slice A1 cs.length c1,.slice A2 rs.length c2] 25)) (.cells #[.int .i64 0,.int .i64 0,.int .i64 0] 47))
 have HLE:Aside0 (w.heap.size≤b4):=⟨by omega⟩
 have HBE:=aK (And.intro hb2 hb4)
 obtain ⟨r,hr⟩ : ∃ r,r=boxM sz cs rs codes:=⟨_,rfl⟩
 rw [← hr]
 have HF:=aK hr
 clear hr1 hr2 hr3 hc1 hc2 hl3 hq hb2 hb4 hr hval hfind
 go_enter Tryz.func27,Tryz.ntmps27
 go_upto_region 1 with (fail)
 rw [← HBE.out.2,← HBE.out.1]
 generalize (w.alloc (.cells #[.int .i64 sz,.slice A1 cs.length c1,.slice A2 rs.length c2] 25)).alloc (.cells #[.int .i64 0,.int .i64 0,.int .i64 0] 47)=V at *
 have p0:=(blk_cell HM.out 0).trans rfl
 have p1:=(blk_cell HM.out 1).trans rfl
 have p2:=(blk_cell HM.out 2).trans rfl
 replace hc:=hc V (Kd.C_below HR1.out HB.out) (Kd.C_below HR2.out HB.out)
 cases hv:validM sz cs rs with
 | false =>
  have HO:Aside0 (r=((0,0,0),2)):=⟨by rw [HF.out,boxM,hv];rfl⟩
  rw [hv] at hc
  clear hv HF HFI
  go_wp2_with fail
  refine hc.mono ?_
  clear hc p0 p1 p2
  rintro e W1 ⟨rfl,hb1⟩
  have HB1:=aK (below_step HB.out hb1)
  have HQ1:=aK (blk_below HQ.out hb1)
  clear hb1 HB HQ HM
  have q0:=blk_frozen HQ1.out 0
  have q1:=blk_frozen HQ1.out 1
  have q2:=blk_frozen HQ1.out 2
  have q4:=(blk_cell HQ1.out 0).trans rfl
  have q5:=(blk_cell HQ1.out 1).trans rfl
  have q6:=(blk_cell HQ1.out 2).trans rfl
  have X4:=aK (blk_put (blk_put (blk_put HQ1.out 0 (.int .i64 0) rfl) 1 (.int .i64 0) rfl) 2 (.int .i64 0) rfl)
  go_wp2
  refine bodyPost_ret (results_ct rfl _ _ b4 47 #[.int .i64 0,.int .i64 0,.int .i64 0] (0,0) _ rfl X4.out Tryz.underlying47 rfl (by kernel_rfl)) rfl ?_
  rw [HO.out]
  exact ⟨rfl,below_set (below_set (below_set HB1.out HLE.out) HLE.out) HLE.out⟩
 | true =>
 rw [hv] at hc
 by_cases hn:codes.length≤2000
 case neg =>
  have hni:(2000:Int)<(codes.length:Int):=by omega
  have hnb:decide ((2000:Int)<(codes.length:Int))=true:=decide_eq_true hni
  have hnn:decide (2000<codes.length)=true:=decide_eq_true (by omega)
  have HO:Aside0 (r=((0,0,0),2)):=⟨by rw [HF.out,boxM,hv,decide_eq_false hn];rfl⟩
  clear hv HF HFI
  go_wp2_with fail
  refine hc.mono ?_
  clear hc p0 p1 p2
  rintro e W1 ⟨rfl,hb1⟩
  have HB1:=aK (below_step HB.out hb1)
  have HQ1:=aK (blk_below HQ.out hb1)
  clear hb1 HB HQ HM
  have q0:=blk_frozen HQ1.out 0
  have q1:=blk_frozen HQ1.out 1
  have q2:=blk_frozen HQ1.out 2
  have q4:=(blk_cell HQ1.out 0).trans rfl
  have q5:=(blk_cell HQ1.out 1).trans rfl
  have q6:=(blk_cell HQ1.out 2).trans rfl
  have X4:=aK (blk_put (blk_put (blk_put HQ1.out 0 (.int .i64 0) rfl) 1 (.int .i64 0) rfl) 2 (.int .i64 0) rfl)
  go_wp2
  refine bodyPost_ret (results_ct rfl _ _ b4 47 #[.int .i64 0,.int .i64 0,.int .i64 0] (0,0) _ rfl X4.out Tryz.underlying47 rfl (by kernel_rfl)) rfl ?_
  rw [HO.out]
  exact ⟨rfl,below_set (below_set (below_set HB1.out HLE.out) HLE.out) HLE.out⟩
 have hni : ¬ (2000:Int)<(codes.length:Int):=by omega
 have hnb:decide ((2000:Int)<(codes.length:Int))=false:=decide_eq_false hni
 have hnn:decide (2000<codes.length)=false:=decide_eq_false (by omega)
 have HF2:Aside0 (r=boxFrom (findM sz cs rs) (codes.drop 0) 0 (0,0,0)):=⟨by rw [HF.out,boxM,hv,decide_eq_true hn];rfl⟩
 clear hv HF
 go_wp2_with fail
 refine hc.mono ?_
 clear hc p0 p1 p2
 rintro e W1 ⟨rfl,hb1⟩
 have HB1:=aK (below_alloc (below_step HB.out hb1) (.cells #[.int .i64 0,.int .i64 0,.int .i64 0] 47))
 have HQ1:=aK (blk_alloc (blk_below HQ.out hb1) (.cells #[.int .i64 0,.int .i64 0,.int .i64 0] 47))
 have HM1:=aK (blk_alloc (blk_below HM.out hb1) (.cells #[.int .i64 0,.int .i64 0,.int .i64 0] 47))
 have hx1:=blk_new W1 (.cells #[.int .i64 0,.int .i64 0,.int .i64 0] 47)
 have hne:b4<W1.heap.size:=Nat.lt_of_lt_of_le (blk_lt HQ.out) hb1.size
 obtain ⟨b6,hb6⟩ : ∃ b6,b6=W1.heap.size:=⟨_,rfl⟩
 rw [← hb6] at hx1 hne
 have HX1:=aK hx1
 have HLE6:Aside0 (w.heap.size≤b6):=⟨by have:=HLE.out;omega⟩
 have HN46:Aside0 (b4≠b6):=⟨by omega⟩
 have HN26:Aside0 (b2≠b6):=⟨by have:=HLE.out;have:=HBE.out.1;omega⟩
 have HBE6:=aK hb6
 clear hb1 HB HQ HM hne hb6 hni hnb hnn hx1
 go_upto_region 4 with (fail)
 rw [← HBE6.out]
 generalize W1.alloc (.cells #[.int .i64 0,.int .i64 0,.int .i64 0] 47)=V1 at *
 clear HBE6 HBE
 go_wp2
 go_loopg [22] codes.length (fun gg s22 wr=>∃ (i:Nat) (o1 o2 o3:Int),i≤codes.length∧codes.length-i≤gg∧s22 = .int .i64 i∧Aside0 (r=boxFrom (findM sz cs rs) (codes.drop i) i (o1,o2,o3))∧Aside0 (wr.heap[b6]?=some (.cells #[.int .i64 o1,.int .i64 o2,.int .i64 o3] 47 (0,0)))∧Aside0 (wr.heap[b4]?=some (.cells #[.int .i64 0,.int .i64 0,.int .i64 0] 47 (0,0)))∧Aside0 (wr.heap[b2]?=some (.cells #[.int .i64 sz,.slice A1 cs.length c1,.slice A2 rs.length c2] 25 (0,0)))∧Aside0 (Below w.heap.size w wr))
 case atStart=>exact ⟨0,0,0,0,by omega,by omega,rfl,HF2,HX1,HQ1,HM1,HB1⟩
 case round =>
  clear HF2 HX1 HQ1 HM1 HB1
  obtain ⟨i,o1,o2,o3,hi,hg,rfl,HI,HX,HQ,HM,HB⟩:=hrel
  by_cases hlt:i<codes.length
  ·have hlti:(i:Int)<(codes.length:Int):=by omega
   have hi0:(0:Int)≤(i:Int):=by omega
   obtain ⟨ad,rfl,hx⟩:=at_I HR3.out (i:Int) hi0 hlti
   simp only [Int.toNat_natCast] at hx
   replace hx:=(HB.out.cell (World.block_lt_of_cell? w _ hx)).trans hx
   have hst:boxFrom (findM sz cs rs) (codes.drop i) i (o1,o2,o3)=if (findM sz cs rs (rd codes (i:Int))).2=0 then boxFrom (findM sz cs rs) (codes.drop (i+1)) (i+1) (boxStep i (o1,o2,o3) (findM sz cs rs (rd codes (i:Int))).1) else ((0,0,0),(findM sz cs rs (rd codes (i:Int))).2):=by
    rw [drop_cons codes i hlt,boxFrom]
   have HST:Aside0 (r=if (findM sz cs rs (rd codes (i:Int))).2=0 then boxFrom (findM sz cs rs) (codes.drop (i+1)) (i+1) (boxStep i (o1,o2,o3) (findM sz cs rs (rd codes (i:Int))).1) else ((0,0,0),(findM sz cs rs (rd codes (i:Int))).2)):=⟨by rw [← hst];exact HI.out⟩
   have HC:=aK (fun V (h:Below w.heap.size w V)=>fleuronref27_Find.calls k sz A1 c1 cs A2 c2 rs (rd codes (i:Int)) _ _ _ _ _ V (Kd.C_below HR1.out h) HC1.out (Kd.C_below HR2.out h) HC2.out (HFI.out _))
   have HSTEP:=aK (show wrap64 ((i:Int)+1)=((i+1:Nat):Int) by have:=HL3.out;unfold wrap64;omega)
   generalize rd codes (i:Int)=n at *
   generalize findM sz cs rs n=f at *
   obtain ⟨x,er⟩:=f
   simp only at HST HC
   have p0:=(blk_cell HM.out 0).trans rfl
   have p1:=(blk_cell HM.out 1).trans rfl
   have p2:=(blk_cell HM.out 2).trans rfl
   clear hst HI
   go_wp2_with fail
   refine (HC.out _ HB.out).mono ?_
   clear p0 p1 p2 hx
   rintro e W2 ⟨rfl,hb2⟩
   have hb2:=below_alloc hb2 (.cells #[.int .i64 x.f0,.int .i64 x.f1,.int .i64 x.f2,.int .i64 x.f3] 50)
   have HB2:=aK (below_step HB.out hb2)
   have HQ2:=aK (blk_below HQ.out hb2)
   have HM2:=aK (blk_below HM.out hb2)
   have HX2:=aK (blk_below HX.out hb2)
   have HY2:=aK (blk_new W2 (.cells #[.int .i64 x.f0,.int .i64 x.f1,.int .i64 x.f2,.int .i64 x.f3] 50))
   have HN96:Aside0 (W2.heap.size≠b6):=⟨by have h1:=blk_lt HX2.out;intro e;have h2:=HX2.out;rw [← e,HY2.out] at h2;injection h2 with h2;injection h2 with _ h2;cases h2⟩
   clear hb2 HB HQ HM HX
   go_upto_region 8 with (fail)
   generalize hb9:W2.heap.size=b9 at *
   generalize W2.alloc (.cells #[.int .i64 x.f0,.int .i64 x.f1,.int .i64 x.f2,.int .i64 x.f3] 50)=V2 at *
   clear hb9
   by_cases her:er=0
   ·have heb:(er == 0)=true:=by simpa using her
    subst her
    have y1:=(blk_cell HY2.out 1).trans rfl
    have z0:=(blk_cell HX2.out 0).trans rfl
    have q0:=blk_frozen HX2.out 0
    have HR12:Aside0 (r=boxFrom (findM sz cs rs) (codes.drop (i+1)) (i+1) (boxStep i (o1,o2,o3) x)):=⟨by rw [HST.out,if_pos rfl]⟩
    have X3:=aK (blk_put HX2.out 0 (.int .i64 (wrap64 (o1+x.f1))) rfl)
    have Y3:=aK (blk_far HY2.out HN96.out (.int .i64 (wrap64 (o1+x.f1))):(V2.setCell ⟨b6,0,none⟩ (.int .i64 (wrap64 (o1+x.f1)))).heap[b9]?=_)
    have Q3:=aK (blk_far HQ2.out HN46.out (.int .i64 (wrap64 (o1+x.f1))):(V2.setCell ⟨b6,0,none⟩ (.int .i64 (wrap64 (o1+x.f1)))).heap[b4]?=_)
    have M3:=aK (blk_far HM2.out HN26.out (.int .i64 (wrap64 (o1+x.f1))):(V2.setCell ⟨b6,0,none⟩ (.int .i64 (wrap64 (o1+x.f1)))).heap[b2]?=_)
    have B3:Aside0 (Below w.heap.size w (V2.setCell ⟨b6,0,none⟩ (.int .i64 (wrap64 (o1+x.f1))))):=⟨below_set HB2.out HLE6.out⟩
    clear HST HC HX2 HY2 HQ2 HM2 HB2
    go_upto_region 11 with (fail)
    generalize V2.setCell ⟨b6,0,none⟩ (.int .i64 (wrap64 (o1+x.f1)))=V3 at *
    clear y1 z0 q0
    go_upto_if 44 with (fail)
    go_cut [] (fun wc=>∃ (m2 m3:Int),Aside0 (boxStep i (o1,o2,o3) x=(wrap64 (o1+x.f1),max m2 x.f2,max m3 x.f3))∧Aside0 (wc.heap[b6]?=some (.cells #[.int .i64 (wrap64 (o1+x.f1)),.int .i64 m2,.int .i64 m3] 47 (0,0)))∧Aside0 (wc.heap[b9]?=some (.cells #[.int .i64 x.f0,.int .i64 x.f1,.int .i64 x.f2,.int .i64 x.f3] 50 (0,0)))∧Aside0 (wc.heap[b4]?=some (.cells #[.int .i64 0,.int .i64 0,.int .i64 0] 47 (0,0)))∧Aside0 (wc.heap[b2]?=some (.cells #[.int .i64 sz,.slice A1 cs.length c1,.slice A2 rs.length c2] 25 (0,0)))∧Aside0 (Below w.heap.size w wc))
    case first =>
     by_cases hz:i=0
     ·subst hz
      have HBX:Aside0 (boxStep 0 (o1,o2,o3) x=(wrap64 (o1+x.f1),max x.f2 x.f2,max x.f3 x.f3)):=⟨by unfold boxStep;simp⟩
      have hidx:((((0:Nat):Int)) == 0)=true:=rfl
      go_upto_region 12 with (fail)
      refine start_ (n:=8) (S:=fun w'=>w'.cell? ⟨b9,2,none⟩=some (.int .i64 x.f2)∧w'.cell? ⟨b9,3,none⟩=some (.int .i64 x.f3)) (ds:=[7]) #[false,false,false,false,false,false,false,false] (by kernel_rfl) rfl rfl ⟨(blk_cell (blk_drew Y3.out) 2).trans rfl,(blk_cell (blk_drew Y3.out) 3).trans rfl⟩ (fun hHeld=>?_)
      refine pu 0 (some 45) ?_ rfl rfl (by kernel_rfl) (fun _ _ _ h=>h) (.inl ⟨by rfl,?_⟩) ?_ ?_ ?_;rotate_left;intro w';go_simp;with_reducible rfl;rotate_left;simp only [nS];rfl
      refine pu 2 (some 47) ?_ rfl rfl (by kernel_rfl) (fun _ _ _ h=>h) (.inl ⟨by rfl,?_⟩) ?_ ?_ ?_;rotate_left;intro w';go_simp;with_reducible rfl;rotate_left;simp only [nS];rfl
      refine tk 1 (some 46) ?_ rfl rfl (by kernel_rfl) (fun _ _ _ h=>h) (.inl ⟨by rfl,?_⟩) hHeld ?_ ?_ ?_;rotate_left;rintro w' ⟨s0,s1⟩;go_simp;with_reducible rfl;rotate_left;simp only [nS];rfl
      refine pu 4 (some 49) ?_ rfl rfl (by kernel_rfl) (fun _ _ _ h=>h) (.inl ⟨by rfl,?_⟩) ?_ ?_ ?_;rotate_left;intro w';go_simp;with_reducible rfl;rotate_left;simp only [nS];rfl
      refine tk 3 (some 48) ?_ rfl rfl (by kernel_rfl) (fun _ _ _ h=>h) (.inl ⟨by rfl,?_⟩) hHeld ?_ ?_ ?_;rotate_left;rintro w' ⟨s0,s1⟩;go_simp;with_reducible rfl;rotate_left;simp only [nS];rfl
      refine one_ (i:=5) (N:=none) #[true,true,true,true,true,true,false,false] rfl rfl (by kernel_rfl) (by decide) (fun K hK=>?_)
      have f0:=blk_frozen X3.out 1
      have f1:=(blk_cell X3.out 1).trans rfl
      refine skip_ (w1:=?_) (by rfl) rfl ?_ ?_
      rotate_left
      ·go_simp
       rfl
      clear f0 f1
      refine hK.out _ _ ⟨(blk_cell (blk_far (blk_drew Y3.out) HN96.out (p:=⟨b6,1,none⟩) (.int .i64 x.f2)) 2).trans rfl,(blk_cell (blk_far (blk_drew Y3.out) HN96.out (p:=⟨b6,1,none⟩) (.int .i64 x.f2)) 3).trans rfl⟩ (fun hHeld=>?_)
      clear hK K
      refine pu 6 (some 50) ?_ rfl rfl (by kernel_rfl) (fun _ _ _ h=>h) (.inl ⟨by rfl,?_⟩) ?_ ?_ ?_;rotate_left;intro w';go_simp;with_reducible rfl;rotate_left;simp only [nS];rfl
      refine last_ (i:=7) (N:=none) #[true,true,true,true,true,true,true,true] rfl rfl (by kernel_rfl) (by decide) (fun K hK=>?_)
      have f2:=blk_frozen X3.out 2
      have f3:=(blk_cell X3.out 2).trans rfl
      refine skip_ (w1:=?_) (by rfl) rfl ?_ ?_
      rotate_left
      ·go_simp
       rfl
      clear f2 f3
      refine hK.out _ _ ?_
      clear hK K
      refine done_ (by kernel_rfl) ?_
      have X5:=aK (blk_drew (blk_put (blk_put X3.out 1 (.int .i64 x.f2) rfl) 2 (.int .i64 x.f3) rfl))
      have Y5:=aK (blk_drew (blk_far (blk_far Y3.out HN96.out (p:=⟨b6,1,none⟩) (.int .i64 x.f2)) HN96.out (p:=⟨b6,2,none⟩) (.int .i64 x.f3)))
      have Q5:=aK (blk_drew (blk_far (blk_far Q3.out HN46.out (p:=⟨b6,1,none⟩) (.int .i64 x.f2)) HN46.out (p:=⟨b6,2,none⟩) (.int .i64 x.f3)))
      have M5:=aK (blk_drew (blk_far (blk_far M3.out HN26.out (p:=⟨b6,1,none⟩) (.int .i64 x.f2)) HN26.out (p:=⟨b6,2,none⟩) (.int .i64 x.f3)))
      have B5:Aside0 (Below w.heap.size w ((V3.setCell ⟨b6,1,none⟩ (.int .i64 x.f2)).setCell ⟨b6,2,none⟩ (.int .i64 x.f3)).drew):=⟨below_drew1 (below_set (below_set B3.out HLE6.out) HLE6.out)⟩
      go_wp2
      go_meet
      case rel=>exact ⟨_,_,HBX,X5,Y5,Q5,M5,B5⟩
     ·have hidx:((i:Int) == 0)=false:=by simpa using hz
      have hidx2:(i == 0)=false:=by simpa using hz
      have hidx3:decide ((i:Int)=0)=false:=by simpa using hz
      have hidx4:decide (i=0)=false:=by simpa using hz
      have HBX:Aside0 (boxStep i (o1,o2,o3) x=(wrap64 (o1+x.f1),max o2 x.f2,max o3 x.f3)):=⟨by unfold boxStep;rw [if_neg hz]⟩
      clear hz
      go_wp2
      go_meet
      case rel=>exact ⟨_,_,HBX,X3,Y3,Q3,M3,B3⟩
    case rest =>
     obtain ⟨m2,m3,HBX,X5,Y5,Q5,M5,B5⟩:=hcut
     clear X3 Y3 Q3 M3 B3
     have hw2:(m2<x.f2∧max m2 x.f2=x.f2)∨(¬ m2<x.f2∧max m2 x.f2=m2):=by omega
     have hw3:(m3<x.f3∧max m3 x.f3=x.f3)∨(¬ m3<x.f3∧max m3 x.f3=m3):=by omega
     go_upto_region 13 with (fail)
     rcases hw2 with ⟨hm2,he2⟩|⟨hm2,he2⟩ <;> rcases hw3 with ⟨hm3,he3⟩|⟨hm3,he3⟩
     all_goals
      rw [he2,he3] at HBX
      clear he2 he3
      refine start_ (n:=14) (S:=fun w'=>w'.cell? ⟨b6,2,none⟩=some (.int .i64 m3)∧w'.cell? ⟨b9,2,none⟩=some (.int .i64 x.f2)∧w'.cell? ⟨b9,3,none⟩=some (.int .i64 x.f3)) (ds:=[13]) #[false,false,false,false,false,false,false,false,false,false,false,false,false,false] (by kernel_rfl) rfl rfl ⟨(blk_cell (blk_drew X5.out) 2).trans rfl,(blk_cell (blk_drew Y5.out) 2).trans rfl,(blk_cell (blk_drew Y5.out) 3).trans rfl⟩ (fun hHeld=>?_)
      refine pu 0 (some 51) ?_ rfl rfl (by kernel_rfl) (fun _ _ _ h=>h) (.inl ⟨by rfl,?_⟩) ?_ ?_ ?_;rotate_left;intro w';go_simp;with_reducible rfl;rotate_left;simp only [nS];rfl
      refine pu 2 (some 53) ?_ rfl rfl (by kernel_rfl) (fun _ _ _ h=>h) (.inl ⟨by rfl,?_⟩) ?_ ?_ ?_;rotate_left;intro w';go_simp;with_reducible rfl;rotate_left;simp only [nS];rfl
      refine pu 5 (some 56) ?_ rfl rfl (by kernel_rfl) (fun _ _ _ h=>h) (.inl ⟨by rfl,?_⟩) ?_ ?_ ?_;rotate_left;intro w';go_simp;with_reducible rfl;rotate_left;simp only [nS];rfl
      refine pu 7 (some 58) ?_ rfl rfl (by kernel_rfl) (fun _ _ _ h=>h) (.inl ⟨by rfl,?_⟩) ?_ ?_ ?_;rotate_left;intro w';go_simp;with_reducible rfl;rotate_left;simp only [nS];rfl
      refine tk 3 (some 54) ?_ rfl rfl (by kernel_rfl) (fun _ _ _ h=>h) (.inl ⟨by rfl,?_⟩) hHeld ?_ ?_ ?_;rotate_left;rintro w' ⟨s0,s1,s2⟩;go_simp;with_reducible rfl;rotate_left;simp only [nS];rfl
      refine tk 6 (some 57) ?_ rfl rfl (by kernel_rfl) (fun _ _ _ h=>h) (.inl ⟨by rfl,?_⟩) hHeld ?_ ?_ ?_;rotate_left;rintro w' ⟨s0,s1,s2⟩;go_simp;with_reducible rfl;rotate_left;simp only [nS];rfl
      refine tk 8 (some 59) ?_ rfl rfl (by kernel_rfl) (fun _ _ _ h=>h) (.inl ⟨by rfl,?_⟩) hHeld ?_ ?_ ?_;rotate_left;rintro w' ⟨s0,s1,s2⟩;go_simp;with_reducible rfl;rotate_left;simp only [nS];rfl
      refine pu 9 (some 60) ?_ rfl rfl (by kernel_rfl) (fun _ _ _ h=>h) (.inl ⟨by rfl,?_⟩) ?_ ?_ ?_;rotate_left;intro w';go_simp;with_reducible rfl;rotate_left;simp only [nS];rfl
      refine one_ (i:=1) (N:=some 52) #[true,true,true,true,false,true,true,true,true,true,false,false,false,false] rfl rfl (by kernel_rfl) (by decide) (fun K hK=>?_)
      have f0:=(blk_cell X5.out 1).trans rfl
      refine value_ (w1:=?_) (v:=?_) (by rfl) rfl ?_ ?_
      rotate_left 2
      ·go_simp
       constructor
       ·rfl
       ·rfl
      clear f0
      refine hK.out _ _ ⟨(blk_cell (blk_drew X5.out) 2).trans rfl,(blk_cell (blk_drew Y5.out) 2).trans rfl,(blk_cell (blk_drew Y5.out) 3).trans rfl⟩ (fun hHeld=>?_)
      clear hK K
      refine norm_ (a':=?_) ?_ ?_;rotate_left;show Act.put _ (some 52) _=_;simp only [nS];rfl
      refine pu 4 (some 55) ?_ rfl rfl (by kernel_rfl) (fun _ _ _ h=>h) (.inl ⟨by rfl,?_⟩) ?_ ?_ ?_;rotate_left;intro w';go_simp;with_reducible rfl;rotate_left;simp only [nS];rfl
      refine pu 10 (some 61) ?_ rfl rfl (by kernel_rfl) (fun _ _ _ h=>h) (.inl ⟨by rfl,?_⟩) ?_ ?_ ?_;rotate_left;intro w';go_simp;with_reducible rfl;rotate_left;simp only [nS];rfl
      refine one_ (i:=11) (N:=none) #[true,true,true,true,true,true,true,true,true,true,true,true,false,false] rfl rfl (by kernel_rfl) (by decide) (fun K hK=>?_)
      have f0:=blk_frozen X5.out 1
      have f1:=(blk_cell X5.out 1).trans rfl
      refine skip_ (w1:=?_) (by rfl) rfl ?_ ?_
      rotate_left
      ·go_simp
       rfl
      clear f0 f1
      refine hK.out _ _ ⟨(blk_cell (blk_drew (blk_put X5.out 1 _ rfl)) 2).trans rfl,(blk_cell (blk_far (blk_drew Y5.out) HN96.out _) 2).trans rfl,(blk_cell (blk_far (blk_drew Y5.out) HN96.out _) 3).trans rfl⟩ (fun hHeld=>?_)
      clear hK K
      refine pu 12 (some 62) ?_ rfl rfl (by kernel_rfl) (fun _ _ _ h=>h) (.inl ⟨by rfl,?_⟩) ?_ ?_ ?_;rotate_left;intro w';go_simp;with_reducible rfl;rotate_left;simp only [nS];rfl
      refine last_ (i:=13) (N:=none) #[true,true,true,true,true,true,true,true,true,true,true,true,true,true] rfl rfl (by kernel_rfl) (by decide) (fun K hK=>?_)
      have f2:=blk_frozen X5.out 2
      have f3:=(blk_cell X5.out 2).trans rfl
      refine skip_ (w1:=?_) (by rfl) rfl ?_ ?_
      rotate_left
      ·go_simp
       rfl
      clear f2 f3
      refine hK.out _ _ ?_
      clear hK K
      refine done_ (by kernel_rfl) ?_
      go_wp2
      go_roundg (codes.length-(i+1))
      case measure=>omega
      case rel=>exact ⟨i+1,_,_,_,by omega,by omega,by first|exact congrArg (Value.int .i64) HSTEP.out|go_num,⟨by rw [HR12.out,HBX.out]⟩,⟨blk_drew (blk_put (blk_put X5.out 1 _ rfl) 2 _ rfl)⟩,⟨blk_drew (blk_far (blk_far Q5.out HN46.out _) HN46.out _)⟩,⟨blk_drew (blk_far (blk_far M5.out HN26.out _) HN26.out _)⟩,⟨below_drew1 (below_set (below_set B5.out HLE6.out) HLE6.out)⟩⟩
   ·have heb:(er == 0)=false:=by simpa using her
    have HO:Aside0 (r=((0,0,0),er)):=⟨by rw [HST.out,if_neg her]⟩
    clear HST HC her
    have q0:=blk_frozen HQ2.out 0
    have q1:=blk_frozen HQ2.out 1
    have q2:=blk_frozen HQ2.out 2
    have q4:=(blk_cell HQ2.out 0).trans rfl
    have q5:=(blk_cell HQ2.out 1).trans rfl
    have q6:=(blk_cell HQ2.out 2).trans rfl
    have X4:=aK (blk_put (blk_put (blk_put HQ2.out 0 (.int .i64 0) rfl) 1 (.int .i64 0) rfl) 2 (.int .i64 0) rfl)
    go_wp2
    refine bodyPost_ret (results_ct rfl _ _ b4 47 #[.int .i64 0,.int .i64 0,.int .i64 0] (0,0) _ rfl X4.out Tryz.underlying47 rfl (by kernel_rfl)) rfl ?_
    rw [HO.out]
    exact ⟨rfl,below_set (below_set (below_set HB2.out HLE.out) HLE.out) HLE.out⟩
  ·have hlti : ¬ (i:Int)<(codes.length:Int):=by omega
   obtain rfl:i=codes.length:=by omega
   have HO:Aside0 (r=((o1,o2,o3),0)):=⟨by rw [HI.out,List.drop_length,boxFrom]⟩
   have z0:=(blk_cell HX.out 0).trans rfl
   have z1:=(blk_cell HX.out 1).trans rfl
   have z2:=(blk_cell HX.out 2).trans rfl
   clear HI
   have q0:=blk_frozen HQ.out 0
   have q1:=blk_frozen HQ.out 1
   have q2:=blk_frozen HQ.out 2
   have q4:=(blk_cell HQ.out 0).trans rfl
   have q5:=(blk_cell HQ.out 1).trans rfl
   have q6:=(blk_cell HQ.out 2).trans rfl
   have X4:=aK (blk_put (blk_put (blk_put HQ.out 0 (.int .i64 o1) rfl) 1 (.int .i64 o2) rfl) 2 (.int .i64 o3) rfl)
   go_wp2
   refine bodyPost_ret (results_ct rfl _ _ b4 47 #[.int .i64 o1,.int .i64 o2,.int .i64 o3] (0,0) _ rfl X4.out Tryz.underlying47 rfl (by kernel_rfl)) rfl ?_
   rw [HO.out]
   exact ⟨rfl,below_set (below_set (below_set HB.out HLE.out) HLE.out) HLE.out⟩
attribute [local go_sem high] eqSC eqSR
theorem eqIn_arr3 (d:Nat) (w:World) (a b c:Int):(Op.equalIn (d+2) 47 (.agg #[.int .i64 a,.int .i64 b,.int .i64 c]) (.agg #[.int .i64 a,.int .i64 b,.int .i64 c])).run Tryz.prog w = .ok true w:=by
 unfold Op.equalIn
 simp [go_sem,List.range',Tryz.underlying47,Tryz.underlying3]
attribute [local go_sem high] eqIn_arr3
theorem lit1_M {W:World} {b:Nat} {x:S25} {A1 A2:Option Addr} {c1 c2:Nat} (h1:Kd.C k50 W A1 x.f1.length x.f1) (l1:x.f1.length≤c1) (h2:Kd.C k45 W A2 x.f2.length x.f2) (l2:x.f2.length≤c2) (hb:W.heap[b]?=some (.cells #[.int .i64 x.f0,.slice A1 x.f1.length c1,.slice A2 x.f2.length c2] 25 (0,0))):Kd.C k25 W (some ⟨b,0,none⟩) 1 [x]:=by
 refine ⟨rfl,by decide,fun _=>⟨⟨b,0,none⟩,rfl,fun j p hj=>?_⟩⟩
 rcases j with _|j
 ·obtain rfl:x=p:=by simpa using hj
  refine ⟨_,rfl,k25_mk W x l1 h1 l2 h2,fun i u hu=>?_⟩
  rw [add_plain,Nat.zero_mul,Nat.zero_add,blk_cell hb i]
  rw [← hu,← List.getElem?_toArray]
 ·simp at hj
def fleuronlaw27_MetricTells.P (k:Nat) (sz:Int) (cs:List S50) (rs:List S45) (a0 a1 a2:Int) (codes:List Int):Prop :=
 fleuronlaw27_few.f k [⟨sz, cs, rs⟩] = some false ∨ (fleuronlaw27_few.f k [⟨sz, cs, rs⟩] = some true ∧ (2500 < codes.length ∨ (codes.length ≤ 2500 ∧ (cs.length ≤ 1000 ∧ rs.length ≤ 1000) ∧
  fleuronref27_Valid.f k sz cs rs=some (validM sz cs rs)∧(∀ n,fleuronref27_Find.f k sz cs rs n=some ((findM sz cs rs n).1.f0,(findM sz cs rs n).1.f1,(findM sz cs rs n).1.f2,(findM sz cs rs n).1.f3,(findM sz cs rs n).2)) ∧
  fleuronref27_Rule.f k sz cs rs a0 a1=some ((ruleM sz cs rs a0 a1).1.f0,(ruleM sz cs rs a0 a1).1.f1,(ruleM sz cs rs a0 a1).1.f2,(ruleM sz cs rs a0 a1).1.f3,(ruleM sz cs rs a0 a1).2) ∧
  scaleRM sz cs rs a2=scaleM sz cs rs a2∧fleuronref27_Same.f k (scaleM sz cs rs a2).1 (scaleM sz cs rs a2).2.1 (scaleM sz cs rs a2).2.2.1 (scaleM sz cs rs a2).1 (scaleM sz cs rs a2).2.1 (scaleM sz cs rs a2).2.2.1=some true)))
structure TeI (w W:World) (b3 b4:Nat) (sz:Int) (A1:Option Addr) (n1 c1:Nat) (A2:Option Addr) (n2 c2:Nat) (a0 a1 a2:Int):Prop where
 bm:W.heap[b3]?=some (.cells #[.int .i64 sz,.slice A1 n1 c1,.slice A2 n2 c2] 25 (0,0))
 bn:W.heap[b4]?=some (.cells #[.int .i64 a0,.int .i64 a1,.int .i64 a2] 47 (0,0))
 below:Below w.heap.size w W
theorem TeI.ofBelow {w W W':World} {b3 b4:Nat} {sz:Int} {A1:Option Addr} {n1 c1:Nat} {A2:Option Addr} {n2 c2:Nat} {a0 a1 a2:Int} (h:TeI w W b3 b4 sz A1 n1 c1 A2 n2 c2 a0 a1 a2) (hb:Below W.heap.size W W'):TeI w W' b3 b4 sz A1 n1 c1 A2 n2 c2 a0 a1 a2 :=
 ⟨blk_below h.bm hb,blk_below h.bn hb,below_step h.below hb⟩
set_option maxHeartbeats 16000000 in
theorem fleuronlaw27_MetricTells.calls (k : Nat) (sz : Int) (A1 : Option Addr) (c1 : Nat) (cs : List S50) (A2 : Option Addr) (c2 : Nat) (rs : List S45) (a0 a1 a2 : Int) (A3 : Option Addr) (c3 : Nat) (codes : List Int) (w : World) (hr1 : Kd.C k50 w A1 cs.length cs) (hc1 : cs.length ≤ c1) (hr2 : Kd.C k45 w A2 rs.length rs) (hc2 : rs.length ≤ c2) (hr3 : Kd.C (Kd.int .i64) w A3 codes.length codes) (hc3 : codes.length ≤ c3) (h : fleuronlaw27_MetricTells.P k sz cs rs a0 a1 a2 codes) :
  Calls Tryz.prog 6 #[.agg #[.int .i64 sz,.slice A1 cs.length c1,.slice A2 rs.length c2],.agg #[.int .i64 a0,.int .i64 a1,.int .i64 a2],.slice A3 codes.length c3] w fun e w'=>e = .returned (.bool true)∧Below w.heap.size w w':=by
 have hu:=Tryz.underlying25
 have hu50:=Tryz.underlying50
 have hu45:=Tryz.underlying45
 have hu47:=Tryz.underlying47
 have HR1:=aK hr1
 have HR2:=aK hr2
 have HR3:=aK hr3
 have HC1:=aK hc1
 have HC2:=aK hc2
 have HC3:=aK hc3
 have H:=aK h
 obtain ⟨b3,hb3⟩ : ∃ b3,b3=w.heap.size:=⟨_,rfl⟩
 obtain ⟨b4,hb4⟩ : ∃ b4,b4=w.heap.size+1:=⟨_,rfl⟩
 have I0:Aside0 (TeI w ((w.alloc (.cells #[.int .i64 sz,.slice A1 cs.length c1,.slice A2 rs.length c2] 25)).alloc (.cells #[.int .i64 a0,.int .i64 a1,.int .i64 a2] 47)) b3 b4 sz A1 cs.length c1 A2 rs.length c2 a0 a1 a2):=⟨by
  refine ⟨by rw [hb3];exact blk_alloc (blk_new w _) _,?_,below_alloc (below_alloc (Below.refl w.heap.size w) _) _⟩
  have h1:=blk_new (w.alloc (.cells #[.int .i64 sz,.slice A1 cs.length c1,.slice A2 rs.length c2] 25)) (.cells #[.int .i64 a0,.int .i64 a1,.int .i64 a2] 47)
  simp only [World.size_alloc] at h1
  rw [← hb4] at h1
  exact h1⟩
 have HBE:=aK (And.intro hb3 hb4)
 clear hr1 hr2 hr3 hc1 hc2 hc3 hb3 hb4 h
 go_enter Tryz.func6,Tryz.ntmps6
 go_upto_region 1 with (fail)
 rw [← HBE.out.2,← HBE.out.1]
 generalize (w.alloc (.cells #[.int .i64 sz,.slice A1 cs.length c1,.slice A2 rs.length c2] 25)).alloc (.cells #[.int .i64 a0,.int .i64 a1,.int .i64 a2] 47)=V at *
 have p0:=(blk_cell I0.out.bm 0).trans rfl
 have p1:=(blk_cell I0.out.bm 1).trans rfl
 have p2:=(blk_cell I0.out.bm 2).trans rfl
 have hb1:=below_alloc (Below.refl V.heap.size V) (.cells #[.int .i64 sz,.slice A1 cs.length c1,.slice A2 rs.length c2] 25)
 have I1:=aK (I0.out.ofBelow hb1)
 have HF:Aside0 (Kd.C k25 (V.alloc (.cells #[.int .i64 sz,.slice A1 cs.length c1,.slice A2 rs.length c2] 25)) (some ⟨V.heap.size,0,none⟩) 1 [⟨sz,cs,rs⟩]):=⟨lit1_M (x:=⟨sz,cs,rs⟩) (Kd.C_below HR1.out I1.out.below) HC1.out (Kd.C_below HR2.out I1.out.below) HC2.out (blk_new V (.cells #[.int .i64 sz,.slice A1 cs.length c1,.slice A2 rs.length c2] 25))⟩
 clear hb1 HBE
 rcases H.out with hf|⟨hf,h⟩
 ·have hc:=fleuronlaw27_few.calls k _ 1 [⟨sz,cs,rs⟩] false _ HF.out (Nat.le_refl 1) hf
  clear hf H
  go_wp2_with fail
  refine hc.mono ?_
  clear hc p0 p1 p2
  rintro e W1 ⟨rfl,hb⟩
  have HB:=aK (below_step I1.out.below hb)
  clear hb
  go_wp2_with fail
  refine (fleuronlaw27_awake.calls true _ rfl).mono ?_
  rintro e WZ ⟨rfl,hbz⟩
  go_wp2
  go_ret
  exact ⟨rfl,below_step HB.out hbz⟩
 have hc:=fleuronlaw27_few.calls k _ 1 [⟨sz,cs,rs⟩] true _ HF.out (Nat.le_refl 1) hf
 have H:=aK h
 clear hf h
 rcases H.out with hn|⟨hn,h⟩
 ·have hni:(2500:Int)<(codes.length:Int):=by omega
  have hnb:decide ((2500:Int)<(codes.length:Int))=true:=decide_eq_true hni
  have hnn:decide (2500<codes.length)=true:=decide_eq_true hn
  clear hn H
  go_wp2_with fail
  refine hc.mono ?_
  clear hc p0 p1 p2
  rintro e W1 ⟨rfl,hb⟩
  have HB:=aK (below_step I1.out.below hb)
  clear hb
  go_wp2_with fail
  refine (fleuronlaw27_awake.calls true _ rfl).mono ?_
  rintro e WZ ⟨rfl,hbz⟩
  go_wp2
  go_ret
  exact ⟨rfl,below_step HB.out hbz⟩
 have hni : ¬ (2500:Int)<(codes.length:Int):=by omega
 have hnb:decide ((2500:Int)<(codes.length:Int))=false:=decide_eq_false hni
 have hnn:decide (2500<codes.length)=false:=decide_eq_false (by omega)
 have HLC:Aside0 (codes.length≤2500):=⟨hn⟩
 have H:=aK h
 clear hn h
 go_wp2_with fail
 refine hc.mono ?_
 clear hc p0 p1 p2
 rintro e W1 ⟨rfl,hb⟩
 have I2:=aK (I1.out.ofBelow hb)
 clear hb I0 I1 HF
 go_upto_region 3 with (fail)
 clear hni hnb hnn
 obtain ⟨hl,hv,hfi,hru,hsc,hsa⟩:=H.out
 have HL:=aK hl
 have HV:=aK hv
 have HFI:=aK hfi
 have HRU:=aK hru
 have HSC:=aK hsc
 have HSA:=aK hsa
 clear hl hv hfi hru hsc hsa H
 have hc1:=fun V h1 h2=>find_calls sz A1 c1 cs A2 c2 rs a0 V h1 h2 (by have:=HL.out;omega) (by have:=HL.out;omega)
 have hc2:=fun V h1 h2=>fleuronref27_Find.calls k sz A1 c1 cs A2 c2 rs a0 _ _ _ _ _ V h1 HC1.out h2 HC2.out (HFI.out a0)
 have HA:=aK hc1
 have HBq:=aK hc2
 clear hc1 hc2
 generalize hq:findM sz cs rs a0=q at HA HBq
 obtain ⟨x,er⟩:=q
 simp only at HA HBq
 clear hq
 have p0:=(blk_cell I2.out.bm 0).trans rfl
 have p1:=(blk_cell I2.out.bm 1).trans rfl
 have p2:=(blk_cell I2.out.bm 2).trans rfl
 have n0:=(blk_cell I2.out.bn 0).trans rfl
 have n1:=(blk_cell I2.out.bn 1).trans rfl
 have n2:=(blk_cell I2.out.bn 2).trans rfl
 go_wp2_with fail
 refine (HA.out W1 (Kd.C_below HR1.out I2.out.below) (Kd.C_below HR2.out I2.out.below)).mono ?_
 clear p0 p1 p2 n0 n1 n2
 rintro e W3 ⟨rfl,hb⟩
 have hb:=below_alloc hb (.cells #[.int .i64 x.f0,.int .i64 x.f1,.int .i64 x.f2,.int .i64 x.f3] 50)
 have I3:=aK (I2.out.ofBelow hb)
 have X3:=aK (blk_new W3 (.cells #[.int .i64 x.f0,.int .i64 x.f1,.int .i64 x.f2,.int .i64 x.f3] 50))
 clear hb I2
 go_upto_region 4 with (fail)
 generalize W3.heap.size=d3 at *
 generalize W3.alloc (.cells #[.int .i64 x.f0,.int .i64 x.f1,.int .i64 x.f2,.int .i64 x.f3] 50)=V3 at *
 have p0:=(blk_cell I3.out.bm 0).trans rfl
 have p1:=(blk_cell I3.out.bm 1).trans rfl
 have p2:=(blk_cell I3.out.bm 2).trans rfl
 have n0:=(blk_cell I3.out.bn 0).trans rfl
 have n1:=(blk_cell I3.out.bn 1).trans rfl
 have n2:=(blk_cell I3.out.bn 2).trans rfl
 go_wp2_with fail
 refine (HBq.out V3 (Kd.C_below HR1.out I3.out.below) (Kd.C_below HR2.out I3.out.below)).mono ?_
 clear p0 p1 p2 n0 n1 n2
 rintro e W4 ⟨rfl,hb⟩
 have hb:=below_alloc hb (.cells #[.int .i64 x.f0,.int .i64 x.f1,.int .i64 x.f2,.int .i64 x.f3] 50)
 have I4:=aK (I3.out.ofBelow hb)
 have X3_:=aK (blk_below X3.out hb)
 clear X3
 have X3:=X3_
 clear X3_
 have X4:=aK (blk_new W4 (.cells #[.int .i64 x.f0,.int .i64 x.f1,.int .i64 x.f2,.int .i64 x.f3] 50))
 clear hb I3
 go_upto_region 5 with (fail)
 generalize W4.heap.size=d4 at *
 generalize W4.alloc (.cells #[.int .i64 x.f0,.int .i64 x.f1,.int .i64 x.f2,.int .i64 x.f3] 50)=V4 at *
 have p0:=(blk_cell X3.out 0).trans rfl
 have p1:=(blk_cell X3.out 1).trans rfl
 have p2:=(blk_cell X3.out 2).trans rfl
 have p3:=(blk_cell X3.out 3).trans rfl
 have n0:=(blk_cell X4.out 0).trans rfl
 have n1:=(blk_cell X4.out 1).trans rfl
 have n2:=(blk_cell X4.out 2).trans rfl
 have n3:=(blk_cell X4.out 3).trans rfl
 go_upto_region 7 with (fail)
 clear p0 p1 p2 p3 n0 n1 n2 n3 X3 X4 HA HBq
 have hc1:=fun V h1 h2=>rule_calls sz A1 c1 cs A2 c2 rs a0 a1 V h1 h2 (by have:=HL.out;omega) (by have:=HL.out;omega)
 have hc2:=fun V h1 h2=>fleuronref27_Rule.calls k sz A1 c1 cs A2 c2 rs a0 a1 _ _ _ _ _ V h1 HC1.out h2 HC2.out HRU.out
 have HA:=aK hc1
 have HBq:=aK hc2
 clear hc1 hc2 HRU
 generalize hq:ruleM sz cs rs a0 a1=q at HA HBq
 obtain ⟨x2,er2⟩:=q
 simp only at HA HBq
 clear hq
 have p0:=(blk_cell I4.out.bm 0).trans rfl
 have p1:=(blk_cell I4.out.bm 1).trans rfl
 have p2:=(blk_cell I4.out.bm 2).trans rfl
 have n0:=(blk_cell I4.out.bn 0).trans rfl
 have n1:=(blk_cell I4.out.bn 1).trans rfl
 have n2:=(blk_cell I4.out.bn 2).trans rfl
 go_wp2_with fail
 refine (HA.out V4 (Kd.C_below HR1.out I4.out.below) (Kd.C_below HR2.out I4.out.below)).mono ?_
 clear p0 p1 p2 n0 n1 n2
 rintro e W5 ⟨rfl,hb⟩
 have hb:=below_alloc hb (.cells #[.int .i64 x2.f0,.int .i64 x2.f1,.int .i64 x2.f2,.int .i64 x2.f3] 45)
 have I5:=aK (I4.out.ofBelow hb)
 have X5:=aK (blk_new W5 (.cells #[.int .i64 x2.f0,.int .i64 x2.f1,.int .i64 x2.f2,.int .i64 x2.f3] 45))
 clear hb I4
 go_upto_region 8 with (fail)
 generalize W5.heap.size=d5 at *
 generalize W5.alloc (.cells #[.int .i64 x2.f0,.int .i64 x2.f1,.int .i64 x2.f2,.int .i64 x2.f3] 45)=V5 at *
 have p0:=(blk_cell I5.out.bm 0).trans rfl
 have p1:=(blk_cell I5.out.bm 1).trans rfl
 have p2:=(blk_cell I5.out.bm 2).trans rfl
 have n0:=(blk_cell I5.out.bn 0).trans rfl
 have n1:=(blk_cell I5.out.bn 1).trans rfl
 have n2:=(blk_cell I5.out.bn 2).trans rfl
 go_wp2_with fail
 refine (HBq.out V5 (Kd.C_below HR1.out I5.out.below) (Kd.C_below HR2.out I5.out.below)).mono ?_
 clear p0 p1 p2 n0 n1 n2
 rintro e W6 ⟨rfl,hb⟩
 have hb:=below_alloc hb (.cells #[.int .i64 x2.f0,.int .i64 x2.f1,.int .i64 x2.f2,.int .i64 x2.f3] 45)
 have I6:=aK (I5.out.ofBelow hb)
 have X5_:=aK (blk_below X5.out hb)
 clear X5
 have X5:=X5_
 clear X5_
 have X6:=aK (blk_new W6 (.cells #[.int .i64 x2.f0,.int .i64 x2.f1,.int .i64 x2.f2,.int .i64 x2.f3] 45))
 clear hb I5
 go_upto_region 9 with (fail)
 generalize W6.heap.size=d6 at *
 generalize W6.alloc (.cells #[.int .i64 x2.f0,.int .i64 x2.f1,.int .i64 x2.f2,.int .i64 x2.f3] 45)=V6 at *
 have p0:=(blk_cell X5.out 0).trans rfl
 have p1:=(blk_cell X5.out 1).trans rfl
 have p2:=(blk_cell X5.out 2).trans rfl
 have p3:=(blk_cell X5.out 3).trans rfl
 have n0:=(blk_cell X6.out 0).trans rfl
 have n1:=(blk_cell X6.out 1).trans rfl
 have n2:=(blk_cell X6.out 2).trans rfl
 have n3:=(blk_cell X6.out 3).trans rfl
 go_upto_region 11 with (fail)
 clear p0 p1 p2 p3 n0 n1 n2 n3 X5 X6 HA HBq
 have hc1:=fun V h1 h2=>scale_calls sz A1 c1 cs A2 c2 rs a2 V h1 HC1.out h2 HC2.out (by have:=HL.out;omega) (by have:=HL.out;omega)
 have hc2:=fun V h1 h2=>refScale_calls k sz A1 c1 cs A2 c2 rs a2 V h1 HC1.out h2 HC2.out (by have:=HL.out;omega) (by have:=HL.out;omega) HV.out
 rw [HSC.out] at hc2
 have HA:=aK hc1
 have HBq:=aK hc2
 clear hc1 hc2 HSC
 generalize hq:scaleM sz cs rs a2=q at HA HBq HSA
 obtain ⟨y0,ys,yr,er3⟩:=q
 simp only at HA HBq HSA
 clear hq
 have p0:=(blk_cell I6.out.bm 0).trans rfl
 have p1:=(blk_cell I6.out.bm 1).trans rfl
 have p2:=(blk_cell I6.out.bm 2).trans rfl
 have n0:=(blk_cell I6.out.bn 0).trans rfl
 have n1:=(blk_cell I6.out.bn 1).trans rfl
 have n2:=(blk_cell I6.out.bn 2).trans rfl
 go_wp2_with fail
 refine (HA.out V6 (Kd.C_below HR1.out I6.out.below) (Kd.C_below HR2.out I6.out.below)).mono ?_
 clear p0 p1 p2 n0 n1 n2
 rintro e W7 ⟨v1,v2,rfl,hr3,hr4,hb⟩
 obtain ⟨A7,c7,rfl⟩:=Kd.R_slice hr3
 obtain ⟨A8,c8,rfl⟩:=Kd.R_slice hr4
 have hq3:=Kd.R_reads' hr3
 have hq4:=Kd.R_reads' hr4
 have hb:=below_alloc hb (.cells #[.int .i64 y0,.slice A7 ys.length c7,.slice A8 yr.length c8] 25)
 have I7:=aK (I6.out.ofBelow hb)
 have X7:=aK (blk_new W7 (.cells #[.int .i64 y0,.slice A7 ys.length c7,.slice A8 yr.length c8] 25))
 have RA:=aK (And.intro (Kd.C_below hq3.2.2 (below_alloc (Below.refl _ _) (.cells #[.int .i64 y0,.slice A7 ys.length c7,.slice A8 yr.length c8] 25))) hq3.2.1)
 have RAr:=aK (And.intro (Kd.C_below hq4.2.2 (below_alloc (Below.refl _ _) (.cells #[.int .i64 y0,.slice A7 ys.length c7,.slice A8 yr.length c8] 25))) hq4.2.1)
 clear hq3 hq4 hr3 hr4
 clear hb I6
 go_upto_region 12 with (fail)
 generalize W7.heap.size=d7 at *
 generalize W7.alloc (.cells #[.int .i64 y0,.slice A7 ys.length c7,.slice A8 yr.length c8] 25)=V7 at *
 have p0:=(blk_cell I7.out.bm 0).trans rfl
 have p1:=(blk_cell I7.out.bm 1).trans rfl
 have p2:=(blk_cell I7.out.bm 2).trans rfl
 have n0:=(blk_cell I7.out.bn 0).trans rfl
 have n1:=(blk_cell I7.out.bn 1).trans rfl
 have n2:=(blk_cell I7.out.bn 2).trans rfl
 go_wp2_with fail
 refine (HBq.out V7 (Kd.C_below HR1.out I7.out.below) (Kd.C_below HR2.out I7.out.below)).mono ?_
 clear p0 p1 p2 n0 n1 n2
 rintro e W8 ⟨v1,v2,rfl,hr3,hr4,hb⟩
 obtain ⟨A9,c9,rfl⟩:=Kd.R_slice hr3
 obtain ⟨A10,c10,rfl⟩:=Kd.R_slice hr4
 have hq3:=Kd.R_reads' hr3
 have hq4:=Kd.R_reads' hr4
 have hb:=below_alloc hb (.cells #[.int .i64 y0,.slice A9 ys.length c9,.slice A10 yr.length c10] 25)
 have I8:=aK (I7.out.ofBelow hb)
 have X7_:=aK (blk_below X7.out hb)
 clear X7
 have X7:=X7_
 clear X7_
 have X8:=aK (blk_new W8 (.cells #[.int .i64 y0,.slice A9 ys.length c9,.slice A10 yr.length c10] 25))
 have RA_:=aK (And.intro (Kd.C_below RA.out.1 hb) RA.out.2)
 have RAr_:=aK (And.intro (Kd.C_below RAr.out.1 hb) RAr.out.2)
 clear RA RAr
 have RB:=aK (And.intro (Kd.C_below hq3.2.2 (below_alloc (Below.refl _ _) (.cells #[.int .i64 y0,.slice A9 ys.length c9,.slice A10 yr.length c10] 25))) hq3.2.1)
 have RBr:=aK (And.intro (Kd.C_below hq4.2.2 (below_alloc (Below.refl _ _) (.cells #[.int .i64 y0,.slice A9 ys.length c9,.slice A10 yr.length c10] 25))) hq4.2.1)
 clear hq3 hq4 hr3 hr4
 clear hb I7
 go_upto_region 13 with (fail)
 generalize W8.heap.size=d8 at *
 generalize W8.alloc (.cells #[.int .i64 y0,.slice A9 ys.length c9,.slice A10 yr.length c10] 25)=V8 at *
 have p0:=(blk_cell X7.out 0).trans rfl
 have n0:=(blk_cell X8.out 0).trans rfl
 have p1:=(blk_cell X7.out 1).trans rfl
 have n1:=(blk_cell X8.out 1).trans rfl
 have p2:=(blk_cell X7.out 2).trans rfl
 have n2:=(blk_cell X8.out 2).trans rfl
 have hc:=fleuronref27_Same.calls k y0 A7 c7 ys A8 c8 yr y0 A9 c9 ys A10 c10 yr true V8 RA_.out.1 RA_.out.2 RAr_.out.1 RAr_.out.2 RB.out.1 RB.out.2 RBr.out.1 RBr.out.2 HSA.out
 go_wp2_with fail
 refine hc.mono ?_
 clear hc p0 p1 p2 n0 n1 n2
 rintro e W9 ⟨rfl,hb⟩
 have I9:=aK (I8.out.ofBelow hb)
 clear hb I8 X7 X8 RA_ RAr_ RB RBr HSA HA HBq
 go_upto_region 15 with (fail)
 have hc1:=fun V h1 h2 h3=>box_calls sz A1 c1 cs A2 c2 rs A3 c3 codes V h1 h2 h3 (by have:=HL.out;omega) (by have:=HL.out;omega) (by have:=HLC.out;omega)
 have hc2:=fun V h1 h2 h3=>refBox_calls k sz A1 c1 cs A2 c2 rs A3 c3 codes V h1 HC1.out h2 HC2.out h3 (by have:=HLC.out;omega) HV.out HFI.out
 have HA:=aK hc1
 have HBq:=aK hc2
 clear hc1 hc2
 generalize hq:boxM sz cs rs codes=q at HA HBq
 obtain ⟨⟨z0,z1,z2⟩,er4⟩:=q
 simp only at HA HBq
 clear hq
 have p0:=(blk_cell I9.out.bm 0).trans rfl
 have p1:=(blk_cell I9.out.bm 1).trans rfl
 have p2:=(blk_cell I9.out.bm 2).trans rfl
 have n0:=(blk_cell I9.out.bn 0).trans rfl
 have n1:=(blk_cell I9.out.bn 1).trans rfl
 have n2:=(blk_cell I9.out.bn 2).trans rfl
 go_wp2_with fail
 refine (HA.out W9 (Kd.C_below HR1.out I9.out.below) (Kd.C_below HR2.out I9.out.below) (Kd.C_below HR3.out I9.out.below)).mono ?_
 clear p0 p1 p2 n0 n1 n2
 rintro e W10 ⟨rfl,hb⟩
 have hb:=below_alloc hb (.cells #[.int .i64 z0,.int .i64 z1,.int .i64 z2] 47)
 have I10:=aK (I9.out.ofBelow hb)
 have X10:=aK (blk_new W10 (.cells #[.int .i64 z0,.int .i64 z1,.int .i64 z2] 47))
 clear hb I9
 go_upto_region 16 with (fail)
 generalize W10.heap.size=d10 at *
 generalize W10.alloc (.cells #[.int .i64 z0,.int .i64 z1,.int .i64 z2] 47)=V10 at *
 have p0:=(blk_cell I10.out.bm 0).trans rfl
 have p1:=(blk_cell I10.out.bm 1).trans rfl
 have p2:=(blk_cell I10.out.bm 2).trans rfl
 have n0:=(blk_cell I10.out.bn 0).trans rfl
 have n1:=(blk_cell I10.out.bn 1).trans rfl
 have n2:=(blk_cell I10.out.bn 2).trans rfl
 go_wp2_with fail
 refine (HBq.out V10 (Kd.C_below HR1.out I10.out.below) (Kd.C_below HR2.out I10.out.below) (Kd.C_below HR3.out I10.out.below)).mono ?_
 clear p0 p1 p2 n0 n1 n2
 rintro e W11 ⟨rfl,hb⟩
 have hb:=below_alloc hb (.cells #[.int .i64 z0,.int .i64 z1,.int .i64 z2] 47)
 have I11:=aK (I10.out.ofBelow hb)
 have X10_:=aK (blk_below X10.out hb)
 clear X10
 have X10:=X10_
 clear X10_
 have X11:=aK (blk_new W11 (.cells #[.int .i64 z0,.int .i64 z1,.int .i64 z2] 47))
 clear hb I10
 go_upto_region 17 with (fail)
 generalize W11.heap.size=d11 at *
 generalize W11.alloc (.cells #[.int .i64 z0,.int .i64 z1,.int .i64 z2] 47)=V11 at *
 have p0:=(blk_cell X10.out 0).trans rfl
 have n0:=(blk_cell X11.out 0).trans rfl
 have p1:=(blk_cell X10.out 1).trans rfl
 have n1:=(blk_cell X11.out 1).trans rfl
 have p2:=(blk_cell X10.out 2).trans rfl
 have n2:=(blk_cell X11.out 2).trans rfl
 have HB:=aK I11.out.below
 clear HA HBq
 go_wp2_with fail
 refine (fleuronlaw27_awake.calls true _ rfl).mono ?_
 rintro e WZ ⟨rfl,hbz⟩
 go_wp2
 go_ret
 exact ⟨rfl,below_step HB.out hbz⟩
end Go.Proofs.YtoemkemmiikhlaaGreat.PF2
