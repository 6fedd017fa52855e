import Derived.Test.YtckjlckhjcbddaaGreatPG3x0
import Derived.Test.YtckjlckhjcbddaaGreatPG3x4
import Derived.Test.YtckjlckhjcbddaaGreatPG3x5
import Derived.Test.YtckjlckhjcbddaaGreatPG3x17
import Derived.Test.YtckjlckhjcbddaaGreatPG3x18
import Derived.Test.YtckjlckhjcbddaaGreatPG3x20
import Derived.Test.YtckjlckhjcbddaaGreatPG3x27
import Derived.Test.YtckjlckhjcbddaaGreatPG3x28
import Derived.Test.YtckjlckhjcbddaaGreatPG3x29
import Derived.Test.YtckjlckhjcbddaaGreatPG3x30
set_option maxRecDepth 100000
namespace Go.Proofs.YtckjlckhjcbddaaGreat.PG3
open Go.RowKit Go.Proofs.YtckjlckhjcbddaaGreatW.PrintWords Go.Proofs.YtckjlckhjcbddaaGreatW.PrintLast Go.Proofs.YtckjlckhjcbddaaGreatW.PrintMore
attribute [local go_sem] max2_int min2_int max_two min_two max_three min_three max_four min_four
set_option linter.unusedVariables false
set_option linter.unusedSimpArgs false
attribute [local go_sem high] eqIn_pt
def leftAt (l:List S47) (s:S47) (i:Nat):Bool:=decide (0≤turnV (rd_T47 l (i:Int)) (nxt l i) s)
def inB (b:Int×Int×Int×Int) (s0 s1:Int):Bool:=decide (b.1≤s0) && (decide (s0≤b.2.2.1) && (decide (b.2.1≤s1) && decide (s1≤b.2.2.2)))
theorem all_hit {f:Nat→Bool} {n i:Nat} (h:i<n) (hf:f i=false):(List.range n).all f=false:=List.all_eq_false.mpr ⟨i,List.mem_range.mpr h,by rw [hf];simp⟩
theorem all_none {f:Nat→Bool} {n:Nat} (h : ∀ i,i<n→f i=true):(List.range n).all f=true:=List.all_eq_true.mpr (fun x hx=>h x (List.mem_range.mp hx))
def fleuronref18_Has.f (l0:List S47) (a1_0 a1_1:Int):Option Bool:=if l0.length=1 then some (eqP (rd_T47 l0 0) ⟨a1_0,a1_1⟩) else if 1≤l0.length∧l0.length≤1000000000 then some ((List.range l0.length).all (leftAt l0 ⟨a1_0,a1_1⟩) && inB (bndAt l0 l0.length) a1_0 a1_1) else none
set_option maxHeartbeats 4000000 in
theorem fleuronref18_Has.calls (A0:Option Addr) (c0:Nat) (l0:List S47) (a1_0 a1_1:Int) (r:Bool) (w:World) (hr0:Kd.C k47 w A0 l0.length l0) (hc0:l0.length≤c0) (h:fleuronref18_Has.f l0 a1_0 a1_1=some r) :
  Calls Tryz.prog 87 #[.slice A0 l0.length c0,.agg #[.int .i64 a1_0,.int .i64 a1_1]] w fun e w'=>e = .returned (.bool r)∧Below w.heap.size w w':=by
 have hu:=Tryz.underlying47
 have hu2:=Tryz.underlying92
 unfold fleuronref18_Has.f at h
 have HR:=aK hr0
 have HC:=aK hc0
 have HB:=aK (below_alloc (Below.refl w.heap.size w) (.cells #[.int .i64 a1_0,.int .i64 a1_1] 47))
 have BS:=aK (blk_new w (.cells #[.int .i64 a1_0,.int .i64 a1_1] 47))
 by_cases hone:l0.length=1
 ·rw [if_pos hone] at h
  have HX:=aK (Option.some.inj h)
  have hb:((l0.length:Int) == 1)=true:=by rw [hone];rfl
  have h0i:(0:Int)<(l0.length:Int):=by omega
  have h0n:0<l0.length:=by omega
  have hne1 : ¬ (l0=[]):=by rintro rfl;simp at h0n
  obtain ⟨ad,rfl,hx0,hx1⟩:=at_T47 hr0 0 (by omega) h0i
  have P1:=aK (show (w.alloc (.cells #[.int .i64 a1_0,.int .i64 a1_1] 47)).drew.cell? ad=some (.int .i64 (rd_T47 l0 0).f0) from (HB.out.cell (World.block_lt_of_cell? w _ hx0)).trans hx0)
  have P2:=aK (show (w.alloc (.cells #[.int .i64 a1_0,.int .i64 a1_1] 47)).drew.cell? ⟨ad.block,ad.off+1,none⟩=some (.int .i64 (rd_T47 l0 0).f1) from (HB.out.cell (World.block_lt_of_cell? w _ hx1)).trans hx1)
  have P3:=aK ((blk_cell (blk_drew BS.out) 0).trans rfl)
  have P4:=aK ((blk_cell (blk_drew BS.out) 1).trans rfl)
  have BD:=aK (below_drew1 HB.out)
  generalize rd_T47 l0 0=x at *
  clear h hr0 hc0 hx0 hx1 hone
  go_enter Tryz.func87,Tryz.ntmps87
  go_wp2
  refine start_ (n:=6) (S:=fun w'=>w'.cell? ad=some (.int .i64 x.f0)∧w'.cell? ⟨ad.block,ad.off+1,none⟩=some (.int .i64 x.f1)∧w'.cell? ⟨w.heap.size,0,none⟩=some (.int .i64 a1_0)∧w'.cell? ⟨w.heap.size,1,none⟩=some (.int .i64 a1_1)) (ds:=[]) #[false,false,false,false,false,false] (by kernel_rfl) rfl rfl ⟨P1.out,P2.out,P3.out,P4.out⟩ (fun hHeld=>?_)
  refine pure_ (i:=0) (N:=some 11) (v:=?_) (a':=?_) #[true,false,false,false,false,false] rfl rfl (by kernel_rfl) (fun _ _ _ h=>h) (Or.inl ⟨by rfl,?_⟩) ?_ ?_
  rotate_left
  ·intro w'
   go_simp
   with_reducible rfl
  rotate_left
  ·simp only [Act.put,lS,i64_w,i32_w]
   rfl
  refine pure_ (i:=1) (N:=some 12) (v:=?_) (a':=?_) #[true,true,false,false,false,false] rfl rfl (by kernel_rfl) (fun _ _ _ h=>h) (Or.inl ⟨by rfl,?_⟩) ?_ ?_
  rotate_left
  ·intro w'
   go_simp
   with_reducible rfl
  rotate_left
  ·simp only [Act.put,lS,i64_w,i32_w]
   rfl
  refine take_ (i:=2) (N:=some 13) (v:=?_) (a':=?_) #[true,true,true,false,false,false] rfl rfl (by kernel_rfl) (fun _ _ _ h=>h) (Or.inl ⟨by rfl,?_⟩) hHeld ?_ ?_
  rotate_left
  ·rintro w' ⟨s0,s1,s2,s3⟩
   go_simp
   with_reducible rfl
  rotate_left
  ·simp only [Act.put,lS,i64_w,i32_w]
   rfl
  refine take_ (i:=3) (N:=some 14) (v:=?_) (a':=?_) #[true,true,true,true,false,false] rfl rfl (by kernel_rfl) (fun _ _ _ h=>h) (Or.inl ⟨by rfl,?_⟩) hHeld ?_ ?_
  rotate_left
  ·rintro w' ⟨s0,s1,s2,s3⟩
   go_simp
   with_reducible rfl
  rotate_left
  ·simp only [Act.put,lS,i64_w,i32_w]
   rfl
  refine pure_ (i:=4) (N:=some 15) (v:=?_) (a':=?_) #[true,true,true,true,true,false] rfl rfl (by kernel_rfl) (fun _ _ _ h=>h) (Or.inl ⟨by rfl,?_⟩) ?_ ?_
  rotate_left
  ·intro w'
   go_simp
   with_reducible rfl
  rotate_left
  ·simp only [Act.put,lS,i64_w,i32_w]
   rfl
  refine pure_ (i:=5) (N:=some 4) (v:=?_) (a':=?_) #[true,true,true,true,true,true] rfl rfl (by kernel_rfl) (fun _ _ _ h=>h) (Or.inl ⟨by rfl,?_⟩) ?_ ?_
  rotate_left
  ·intro w'
   go_simp
   with_reducible rfl
  rotate_left
  ·simp only [Act.put,lS,i64_w,i32_w]
   rfl
  refine done_ (by kernel_rfl) ?_
  go_wp2
  go_ret
  exact ⟨by rw [← HX.out];rfl,BD.out⟩
 ·rw [if_neg hone] at h
  have hb:((l0.length:Int) == 1)=false:=beq_eq_false_iff_ne.mpr (by omega)
  by_cases hl:1≤l0.length∧l0.length≤1000000000
  case neg=>rw [if_neg hl] at h;cases h
  rw [if_pos hl] at h
  have HX:=aK (Option.some.inj h)
  have HL:=aK hl
  have hbd : ∀ V,Kd.C k47 V A0 l0.length l0→Calls Tryz.prog 111 #[.slice A0 l0.length c0] V fun e w'=>e = .returned (.agg #[.int .i64 (bndAt l0 l0.length).1,.int .i64 (bndAt l0 l0.length).2.1,.int .i64 (bndAt l0 l0.length).2.2.1,.int .i64 (bndAt l0 l0.length).2.2.2])∧Below V.heap.size V w':=fun V hV=>fleuronref16_Bounds.calls A0 c0 l0 _ V hV hc0 (by unfold fleuronref16_Bounds.f;rw [if_pos hl])
  have HBD:=aK hbd
  clear h hl hr0 hc0 hbd hone
  go_enter Tryz.func87,Tryz.ntmps87
  go_wp2
  go_loopg [18] l0.length (fun gg s18 wr=>∃ kk:Nat,kk≤l0.length∧l0.length≤gg+kk∧s18 = .int .i64 kk∧Aside0 (∀ j,j<kk→leftAt l0 ⟨a1_0,a1_1⟩ j=true)∧Aside0 (Below w.heap.size w wr)∧Aside0 (wr.heap[w.heap.size]?=some (.cells #[.int .i64 a1_0,.int .i64 a1_1] 47 (0,0))))
  case atStart=>exact ⟨0,by omega,by omega,rfl,⟨fun j hj=>by omega⟩,HB,BS⟩
  case round =>
   obtain ⟨kk,hkk,hg,rfl,HF,HB',BS'⟩:=hrel
   by_cases hlt:kk<l0.length
   ·have hlti:(kk:Int)<(l0.length:Int):=by omega
    obtain ⟨ad,rfl,hx0,hx1⟩:=at_T47 HR.out (kk:Int) (by omega) hlti
    obtain ⟨j,hj⟩ : ∃ j:Nat,(kk+1) % l0.length=j:=⟨_,rfl⟩
    have hjl:j<l0.length:=by have:=Nat.mod_lt (kk+1) (show 0<l0.length by omega);omega
    have hji:(j:Int)<(l0.length:Int):=by omega
    obtain ⟨ad',e',hy0,hy1⟩:=at_T47 HR.out (j:Int) (by omega) hji
    obtain rfl:ad=ad':=by injection e'
    simp only [Int.toNat_natCast] at hx0 hx1 hy0 hy1
    have hnx:nxt l0 kk=rd_T47 l0 (j:Int):=by unfold nxt;rw [hj]
    have hla:leftAt l0 ⟨a1_0,a1_1⟩ kk=decide (0≤turnV (rd_T47 l0 (kk:Int)) (rd_T47 l0 (j:Int)) ⟨a1_0,a1_1⟩):=by unfold leftAt;rw [hnx]
    have htc:=fun V=>fleuronref17_Turn.calls _ _ _ _ _ _ _ V (turn_some (rd_T47 l0 (kk:Int)) (rd_T47 l0 (j:Int)) ⟨a1_0,a1_1⟩)
    have ht:Int.tmod ((kk:Int)+1) (l0.length:Int)=(j:Int):=by
     rw [Int.tmod_eq_emod_of_nonneg (by omega),← hj];simp
    have hw:wrap64 ((kk:Int)+1)=(kk:Int)+1:=by have:=HL.out;unfold wrap64;omega
    have hwk:wrap64 ((kk:Int)+1)=((kk+1:Nat):Int):=hw
    have hne : ¬ (l0=[]):=by rintro rfl;simp at hlt
    generalize rd_T47 l0 (kk:Int)=x at *
    generalize rd_T47 l0 (j:Int)=y at *
    have q1:=(HB'.out.cell (World.block_lt_of_cell? w _ hx0)).trans hx0
    have q2:=(HB'.out.cell (World.block_lt_of_cell? w _ hx1)).trans hx1
    have BD:=aK (below_drew1 (below_alloc HB'.out (.cells #[.int .i64 x.f0,.int .i64 x.f1] 47)))
    have xb:=blk_drew (blk_new wr (.cells #[.int .i64 x.f0,.int .i64 x.f1] 47))
    have P1:=aK ((blk_cell xb 0).trans rfl)
    have P2:=aK ((blk_cell xb 1).trans rfl)
    have P3:=aK (show (wr.alloc (.cells #[.int .i64 x.f0,.int .i64 x.f1] 47)).drew.cell? (ad.add (j*2))=some (.int .i64 y.f0) from (BD.out.cell (World.block_lt_of_cell? w _ hy0)).trans hy0)
    have P4:=aK (show (wr.alloc (.cells #[.int .i64 x.f0,.int .i64 x.f1] 47)).drew.cell? ⟨(ad.add (j*2)).block,(ad.add (j*2)).off+1,none⟩=some (.int .i64 y.f1) from (BD.out.cell (World.block_lt_of_cell? w _ hy1)).trans hy1)
    have sb:=blk_drew (blk_alloc BS'.out (.cells #[.int .i64 x.f0,.int .i64 x.f1] 47))
    have P5:=aK ((blk_cell sb 0).trans rfl)
    have P6:=aK ((blk_cell sb 1).trans rfl)
    have SB:=aK sb
    have HTC:=aK htc
    have HW:=aK hwk
    have HJ:=aK hj
    generalize turnV x y ⟨a1_0,a1_1⟩=tv at *
    cases hv:decide (0≤tv) with
    | false =>
     have hvb:decide (tv<0)=true:=decide_eq_true (by have:=of_decide_eq_false hv;omega)
     have HALL:=aK (all_hit hlt (hla.trans hv))
     clear hx0 hx1 hy0 hy1 hj hnx hla htc hwk e' xb sb hv
     go_wp2
     refine start_ (n:=12) (S:=fun w'=>w'.cell? ⟨wr.heap.size,0,none⟩=some (.int .i64 x.f0)∧w'.cell? ⟨wr.heap.size,1,none⟩=some (.int .i64 x.f1)∧w'.cell? (ad.add (j*2))=some (.int .i64 y.f0)∧w'.cell? ⟨(ad.add (j*2)).block,(ad.add (j*2)).off+1,none⟩=some (.int .i64 y.f1)∧w'.cell? ⟨w.heap.size,0,none⟩=some (.int .i64 a1_0)∧w'.cell? ⟨w.heap.size,1,none⟩=some (.int .i64 a1_1)) (ds:=[10]) #[false,false,false,false,false,false,false,false,false,false,false,false] (by kernel_rfl) rfl rfl ⟨P1.out,P2.out,P3.out,P4.out,P5.out,P6.out⟩ (fun hHeld=>?_)
     refine pure_ (i:=1) (N:=some 24) (v:=?_) (a':=?_) #[false,true,false,false,false,false,false,false,false,false,false,false] rfl rfl (by kernel_rfl) (fun _ _ _ h=>h) (Or.inl ⟨by rfl,?_⟩) ?_ ?_
     rotate_left
     ·intro w'
      go_simp
      with_reducible rfl
     rotate_left
     ·simp only [Act.put,lS,i64_w,i32_w]
      rfl
     refine pure_ (i:=2) (N:=some 25) (v:=?_) (a':=?_) #[false,true,true,false,false,false,false,false,false,false,false,false] rfl rfl (by kernel_rfl) (fun _ _ _ h=>h) (Or.inl ⟨by rfl,?_⟩) ?_ ?_
     rotate_left
     ·intro w'
      go_simp
      with_reducible rfl
     rotate_left
     ·simp only [Act.put,lS,i64_w,i32_w]
      rfl
     refine pure_ (i:=3) (N:=some 26) (v:=?_) (a':=?_) #[false,true,true,true,false,false,false,false,false,false,false,false] rfl rfl (by kernel_rfl) (fun _ _ _ h=>h) (Or.inl ⟨by rfl,?_⟩) ?_ ?_
     rotate_left
     ·intro w'
      go_simp
      with_reducible rfl
     rotate_left
     ·simp only [Act.put,lS,i64_w,i32_w]
      rfl
     refine pure_ (i:=4) (N:=some 27) (v:=?_) (a':=?_) #[false,true,true,true,true,false,false,false,false,false,false,false] rfl rfl (by kernel_rfl) (fun _ _ _ h=>h) (Or.inl ⟨by rfl,?_⟩) ?_ ?_
     rotate_left
     ·intro w'
      go_simp
      with_reducible rfl
     rotate_left
     ·simp only [Act.put,lS,i64_w,i32_w]
      rfl
     refine pure_ (i:=5) (N:=some 28) (v:=?_) (a':=?_) #[false,true,true,true,true,true,false,false,false,false,false,false] rfl rfl (by kernel_rfl) (fun _ _ _ h=>h) (Or.inl ⟨by rfl,?_⟩) ?_ ?_
     rotate_left
     ·intro w'
      go_simp
      with_reducible rfl
     rotate_left
     ·simp only [Act.put,lS,i64_w,i32_w]
      rfl
     refine pure_ (i:=6) (N:=some 29) (v:=?_) (a':=?_) #[false,true,true,true,true,true,true,false,false,false,false,false] rfl rfl (by kernel_rfl) (fun _ _ _ h=>h) (Or.inl ⟨by rfl,?_⟩) ?_ ?_
     rotate_left
     ·intro w'
      go_simp
      with_reducible rfl
     rotate_left
     ·simp only [Act.put,lS,i64_w,i32_w]
      rfl
     refine pure_ (i:=7) (N:=some 30) (v:=?_) (a':=?_) #[false,true,true,true,true,true,true,true,false,false,false,false] rfl rfl (by kernel_rfl) (fun _ _ _ h=>h) (Or.inl ⟨by rfl,?_⟩) ?_ ?_
     rotate_left
     ·intro w'
      go_simp
      with_reducible rfl
     rotate_left
     ·simp only [Act.put,lS,i64_w,i32_w]
      rfl
     refine take_ (i:=0) (N:=some 23) (v:=?_) (a':=?_) #[true,true,true,true,true,true,true,true,false,false,false,false] rfl rfl (by kernel_rfl) (fun _ _ _ h=>h) (Or.inl ⟨by rfl,?_⟩) hHeld ?_ ?_
     rotate_left
     ·rintro w' ⟨s0,s1,s2,s3,s4,s5⟩
      go_simp
      with_reducible rfl
     rotate_left
     ·simp only [Act.put,lS,i64_w,i32_w]
      rfl
     refine take_ (i:=8) (N:=some 31) (v:=?_) (a':=?_) #[true,true,true,true,true,true,true,true,true,false,false,false] rfl rfl (by kernel_rfl) (fun _ _ _ h=>h) (Or.inl ⟨by rfl,?_⟩) hHeld ?_ ?_
     rotate_left
     ·rintro w' ⟨s0,s1,s2,s3,s4,s5⟩
      go_simp
      with_reducible rfl
     rotate_left
     ·simp only [Act.put,lS,i64_w,i32_w]
      rfl
     refine take_ (i:=9) (N:=some 32) (v:=?_) (a':=?_) #[true,true,true,true,true,true,true,true,true,true,false,false] rfl rfl (by kernel_rfl) (fun _ _ _ h=>h) (Or.inl ⟨by rfl,?_⟩) hHeld ?_ ?_
     rotate_left
     ·rintro w' ⟨s0,s1,s2,s3,s4,s5⟩
      go_simp
      with_reducible rfl
     rotate_left
     ·simp only [Act.put,lS,i64_w,i32_w]
      rfl
     refine last_ (i:=10) (N:=some 33) #[true,true,true,true,true,true,true,true,true,true,true,false] rfl rfl (by kernel_rfl) (by decide) (fun K hK=>?_)
     refine goes_ Tryz.func110 (by kernel_rfl) rfl #[.agg #[.int .i64 x.f0,.int .i64 x.f1],.agg #[.int .i64 y.f0,.int .i64 y.f1],.agg #[.int .i64 a1_0,.int .i64 a1_1]] (by rfl) rfl rfl (by simp only [List.map_toArray,List.map_cons,List.map_nil];rfl) ?_
     with_reducible refine (HTC.out _).mono ?_
     rintro e w3 ⟨rfl,hk3⟩
     refine ⟨_,rfl,?_⟩
     refine hK.out _ _ ?_
     clear hK K
     refine norm_ (a':=?_) ?_ ?_
     rotate_left
     ·show Act.put _ (some 33) _=_
      simp only [Act.put,lS,i64_w,i32_w]
      rfl
     refine pure_ (i:=11) (N:=some 34) (v:=?_) (a':=?_) #[true,true,true,true,true,true,true,true,true,true,true,true] rfl rfl (by kernel_rfl) (fun _ _ _ h=>h) (Or.inl ⟨by rfl,?_⟩) ?_ ?_
     rotate_left
     ·intro w'
      go_simp
      with_reducible rfl
     rotate_left
     ·simp only [Act.put,lS,i64_w,i32_w]
      rfl
     refine done_ (by kernel_rfl) ?_
     have B3:=aK (below_step BD.out hk3)
     clear hk3
     obtain rfl:false=r:=by have:=HX.out;rw [HALL.out] at this;simpa using this
     go_wp2
     (try simp only [Exit.inBlock,Exit.then])
     refine bodyPost_ret (results_tmp rfl _ _ _) rfl ?_
     exact ⟨rfl,B3.out⟩
    | true =>
     have hvb:decide (tv<0)=false:=decide_eq_false (by have:=of_decide_eq_true hv;omega)
     have HLA:=aK (hla.trans hv)
     clear hx0 hx1 hy0 hy1 hj hnx hla htc hwk e' xb sb hv
     go_wp2
     refine start_ (n:=12) (S:=fun w'=>w'.cell? ⟨wr.heap.size,0,none⟩=some (.int .i64 x.f0)∧w'.cell? ⟨wr.heap.size,1,none⟩=some (.int .i64 x.f1)∧w'.cell? (ad.add (j*2))=some (.int .i64 y.f0)∧w'.cell? ⟨(ad.add (j*2)).block,(ad.add (j*2)).off+1,none⟩=some (.int .i64 y.f1)∧w'.cell? ⟨w.heap.size,0,none⟩=some (.int .i64 a1_0)∧w'.cell? ⟨w.heap.size,1,none⟩=some (.int .i64 a1_1)) (ds:=[10]) #[false,false,false,false,false,false,false,false,false,false,false,false] (by kernel_rfl) rfl rfl ⟨P1.out,P2.out,P3.out,P4.out,P5.out,P6.out⟩ (fun hHeld=>?_)
     refine pure_ (i:=1) (N:=some 24) (v:=?_) (a':=?_) #[false,true,false,false,false,false,false,false,false,false,false,false] rfl rfl (by kernel_rfl) (fun _ _ _ h=>h) (Or.inl ⟨by rfl,?_⟩) ?_ ?_
     rotate_left
     ·intro w'
      go_simp
      with_reducible rfl
     rotate_left
     ·simp only [Act.put,lS,i64_w,i32_w]
      rfl
     refine pure_ (i:=2) (N:=some 25) (v:=?_) (a':=?_) #[false,true,true,false,false,false,false,false,false,false,false,false] rfl rfl (by kernel_rfl) (fun _ _ _ h=>h) (Or.inl ⟨by rfl,?_⟩) ?_ ?_
     rotate_left
     ·intro w'
      go_simp
      with_reducible rfl
     rotate_left
     ·simp only [Act.put,lS,i64_w,i32_w]
      rfl
     refine pure_ (i:=3) (N:=some 26) (v:=?_) (a':=?_) #[false,true,true,true,false,false,false,false,false,false,false,false] rfl rfl (by kernel_rfl) (fun _ _ _ h=>h) (Or.inl ⟨by rfl,?_⟩) ?_ ?_
     rotate_left
     ·intro w'
      go_simp
      with_reducible rfl
     rotate_left
     ·simp only [Act.put,lS,i64_w,i32_w]
      rfl
     refine pure_ (i:=4) (N:=some 27) (v:=?_) (a':=?_) #[false,true,true,true,true,false,false,false,false,false,false,false] rfl rfl (by kernel_rfl) (fun _ _ _ h=>h) (Or.inl ⟨by rfl,?_⟩) ?_ ?_
     rotate_left
     ·intro w'
      go_simp
      with_reducible rfl
     rotate_left
     ·simp only [Act.put,lS,i64_w,i32_w]
      rfl
     refine pure_ (i:=5) (N:=some 28) (v:=?_) (a':=?_) #[false,true,true,true,true,true,false,false,false,false,false,false] rfl rfl (by kernel_rfl) (fun _ _ _ h=>h) (Or.inl ⟨by rfl,?_⟩) ?_ ?_
     rotate_left
     ·intro w'
      go_simp
      with_reducible rfl
     rotate_left
     ·simp only [Act.put,lS,i64_w,i32_w]
      rfl
     refine pure_ (i:=6) (N:=some 29) (v:=?_) (a':=?_) #[false,true,true,true,true,true,true,false,false,false,false,false] rfl rfl (by kernel_rfl) (fun _ _ _ h=>h) (Or.inl ⟨by rfl,?_⟩) ?_ ?_
     rotate_left
     ·intro w'
      go_simp
      with_reducible rfl
     rotate_left
     ·simp only [Act.put,lS,i64_w,i32_w]
      rfl
     refine pure_ (i:=7) (N:=some 30) (v:=?_) (a':=?_) #[false,true,true,true,true,true,true,true,false,false,false,false] rfl rfl (by kernel_rfl) (fun _ _ _ h=>h) (Or.inl ⟨by rfl,?_⟩) ?_ ?_
     rotate_left
     ·intro w'
      go_simp
      with_reducible rfl
     rotate_left
     ·simp only [Act.put,lS,i64_w,i32_w]
      rfl
     refine take_ (i:=0) (N:=some 23) (v:=?_) (a':=?_) #[true,true,true,true,true,true,true,true,false,false,false,false] rfl rfl (by kernel_rfl) (fun _ _ _ h=>h) (Or.inl ⟨by rfl,?_⟩) hHeld ?_ ?_
     rotate_left
     ·rintro w' ⟨s0,s1,s2,s3,s4,s5⟩
      go_simp
      with_reducible rfl
     rotate_left
     ·simp only [Act.put,lS,i64_w,i32_w]
      rfl
     refine take_ (i:=8) (N:=some 31) (v:=?_) (a':=?_) #[true,true,true,true,true,true,true,true,true,false,false,false] rfl rfl (by kernel_rfl) (fun _ _ _ h=>h) (Or.inl ⟨by rfl,?_⟩) hHeld ?_ ?_
     rotate_left
     ·rintro w' ⟨s0,s1,s2,s3,s4,s5⟩
      go_simp
      with_reducible rfl
     rotate_left
     ·simp only [Act.put,lS,i64_w,i32_w]
      rfl
     refine take_ (i:=9) (N:=some 32) (v:=?_) (a':=?_) #[true,true,true,true,true,true,true,true,true,true,false,false] rfl rfl (by kernel_rfl) (fun _ _ _ h=>h) (Or.inl ⟨by rfl,?_⟩) hHeld ?_ ?_
     rotate_left
     ·rintro w' ⟨s0,s1,s2,s3,s4,s5⟩
      go_simp
      with_reducible rfl
     rotate_left
     ·simp only [Act.put,lS,i64_w,i32_w]
      rfl
     refine last_ (i:=10) (N:=some 33) #[true,true,true,true,true,true,true,true,true,true,true,false] rfl rfl (by kernel_rfl) (by decide) (fun K hK=>?_)
     refine goes_ Tryz.func110 (by kernel_rfl) rfl #[.agg #[.int .i64 x.f0,.int .i64 x.f1],.agg #[.int .i64 y.f0,.int .i64 y.f1],.agg #[.int .i64 a1_0,.int .i64 a1_1]] (by rfl) rfl rfl (by simp only [List.map_toArray,List.map_cons,List.map_nil];rfl) ?_
     with_reducible refine (HTC.out _).mono ?_
     rintro e w3 ⟨rfl,hk3⟩
     refine ⟨_,rfl,?_⟩
     refine hK.out _ _ ?_
     clear hK K
     refine norm_ (a':=?_) ?_ ?_
     rotate_left
     ·show Act.put _ (some 33) _=_
      simp only [Act.put,lS,i64_w,i32_w]
      rfl
     refine pure_ (i:=11) (N:=some 34) (v:=?_) (a':=?_) #[true,true,true,true,true,true,true,true,true,true,true,true] rfl rfl (by kernel_rfl) (fun _ _ _ h=>h) (Or.inl ⟨by rfl,?_⟩) ?_ ?_
     rotate_left
     ·intro w'
      go_simp
      with_reducible rfl
     rotate_left
     ·simp only [Act.put,lS,i64_w,i32_w]
      rfl
     refine done_ (by kernel_rfl) ?_
     have B3:=aK (below_step BD.out hk3)
     have S3:=aK (blk_below SB.out hk3)
     clear hk3
     go_wp2
     go_roundg (l0.length-(kk+1))
     case measure=>omega
     case rel=>exact ⟨kk+1,by omega,by omega,congrArg (Value.int .i64) HW.out,⟨fun i hi=>by rcases Nat.lt_or_ge i kk with h|h;exact HF.out i h;rw [show i=kk by omega];exact HLA.out⟩,B3,S3⟩
   ·have hlti : ¬ (kk:Int)<(l0.length:Int):=by omega
    obtain rfl:kk=l0.length:=by omega
    have hx:=HX.out
    rw [all_none HF.out,Bool.true_and] at hx
    go_wp2_with fail
    refine (HBD.out _ (Kd.C_below HR.out HB'.out)).mono ?_
    rintro e W1 ⟨rfl,hb1⟩
    have B1:=aK (below_step HB'.out hb1)
    have K1:=blk_below BS'.out hb1
    generalize bndAt l0 l0.length=b at *
    obtain ⟨b0,b1,b2,b3⟩:=b
    simp only [inB] at hx
    have K2:=blk_alloc K1 (.cells #[.int .i64 b0,.int .i64 b1,.int .i64 b2,.int .i64 b3] 92)
    have p0:=(blk_cell K2 0).trans rfl
    have p1:=(blk_cell K2 1).trans rfl
    clear hb1 HBD K1 K2
    cases t1:decide (b0≤a1_0) with
    | false =>
     obtain rfl:false=r:=by rw [t1] at hx;simpa using hx
     clear hx
     go_wp2
     go_ret
     exact ⟨rfl,below_alloc B1.out _⟩
    | true =>
     cases t2:decide (a1_0≤b2) with
     | false =>
      obtain rfl:false=r:=by rw [t1,t2] at hx;simpa using hx
      clear hx
      go_wp2
      go_ret
      exact ⟨rfl,below_alloc B1.out _⟩
     | true =>
      cases t3:decide (b1≤a1_1) with
      | false =>
       obtain rfl:false=r:=by rw [t1,t2,t3] at hx;simpa using hx
       clear hx
       go_wp2
       go_ret
       exact ⟨rfl,below_alloc B1.out _⟩
      | true =>
       rw [t1,t2,t3] at hx
       obtain ⟨t4,ht4⟩ : ∃ t,decide (a1_1≤b3)=t:=⟨_,rfl⟩
       obtain rfl:t4=r:=by rw [ht4] at hx;simpa using hx
       clear hx
       go_wp2
       go_ret
       exact ⟨rfl,below_alloc B1.out _⟩
def fleuronref18_One.l0:Nat→List (List (S47))→Int→Int→Int→Int→Option (Bool)
 | 0,_,_,_,_,_=>none
 | k+1,x7,x8,x9,x296000,x296001=>if x9<x8 then (if 0≤x9 then (if x9<(x7.length:Int) then ((fleuronref18_Has.f (rd_L2 x7 x9) x296000 x296001).bind fun t297=>(if t297=true then (some true) else (fleuronref18_One.l0 k x7 x8 (wrap64 (x9+1)) x296000 x296001))) else (none)) else (none)) else (some false)
def fleuronref18_One.f (k:Nat) (l0:List (List (S47))) (a1_0:Int) (a1_1:Int):Option (Bool):=fleuronref18_One.l0 k l0 (l0.length:Int) 0 a1_0 a1_1
theorem fleuronref18_One.mono_l : ∀ k,(∀ y0 y1 y2 y3 y4,LeO (fleuronref18_One.l0 k y0 y1 y2 y3 y4) (fleuronref18_One.l0 (k+1) y0 y1 y2 y3 y4))
 | 0=>fun _ _ _ _ _ r h=>by simp [fleuronref18_One.l0] at h
 | k+1=>by
  have ih0:=fleuronref18_One.mono_l k
  ·intro y0 y1 y2 y3 y4
   unfold fleuronref18_One.l0
   repeat' first
   | (with_reducible exact ih0 _ _ _ _ _)
   | (with_reducible exact LeO.refl _)
   | (with_reducible exact LeO.none _)
   | (with_reducible refine LeO.ite ?_ ?_)
   | (with_reducible refine LeO.bind ?_ (fun _=>?_))
   | exact ih0 _ _ _ _ _
   | exact LeO.none _
   | refine LeO.ite ?_ ?_
   | refine LeO.bind ?_ (fun _=>?_)
theorem fleuronref18_One.mono : ∀ a0 a1 a2 k,LeO (fleuronref18_One.f k a0 a1 a2) (fleuronref18_One.f (k+1) a0 a1 a2):=by
 intro a0 a1 a2 k
 have ih0:=fleuronref18_One.mono_l k
 unfold fleuronref18_One.f
 repeat' first
   | (with_reducible exact ih0 _ _ _ _ _)
   | (with_reducible exact LeO.refl _)
   | (with_reducible exact LeO.none _)
   | (with_reducible refine LeO.ite ?_ ?_)
   | (with_reducible refine LeO.bind ?_ (fun _=>?_))
   | exact ih0 _ _ _ _ _
   | exact LeO.none _
   | refine LeO.ite ?_ ?_
   | refine LeO.bind ?_ (fun _=>?_)
set_option maxHeartbeats 8000000 in
theorem fleuronref18_One.calls (k:Nat) (A0:Option Addr) (c0:Nat) (l0:List (List (S47))) (a1_0:Int) (a1_1:Int) (r:Bool) (w:World) (hr0:Kd.C (Kd.slice 47 k47) w A0 l0.length l0) (hc0:l0.length≤c0) (h:fleuronref18_One.f k l0 a1_0 a1_1=some r) :
  Calls Tryz.prog 47 #[.slice A0 l0.length c0,.agg #[.int .i64 a1_0,.int .i64 a1_1]] w fun e w'=>e = .returned (.bool r)∧Below w.heap.size w w':=by
 have hu47:=Tryz.underlying47
 have HR0:=aK hr0
 have HC0:=aK hc0
 clear hr0 hc0
 have HB:=aK (Below.refl w.heap.size w)
 have H:(fleuronref18_One.l0 k l0 (l0.length:Int) 0 a1_0 a1_1)=some r:=h
 clear h
 have H':=aK H
 clear H
 go_enter Tryz.func47,Tryz.ntmps47
 go_wp2_with ((with_reducible refine gate_dst (N:=3) rfl ?_);refine box_event ?hg (N:=3) ?hd (cs:=#[.int .i64 a1_0,.int .i64 a1_1]) (t:=47) ?hr ?_;(case hd=>rfl);(case hg=>rfl);(case hr=>first|(go_simp;done)|(go_simp;rfl));intro gb295 hg w3 hbox hb;have n0_:=aK (below_step (by repeat (first|(with_reducible first|exact HB.out|apply below_alloc|apply pw_below_drewN|apply below_drew1)|exact HB.out)) hb);have n1_:=aK (hbox);have n2_:=aK ((by rw [hg];exact (below_size (by repeat (first|(with_reducible first|exact HB.out|apply below_alloc|apply pw_below_drewN|apply below_drew1)|exact HB.out))):w.heap.size≤gb295));have n3_:=n2_;clear HB;have HB:=n0_;have BK295:=n1_;have GW295:=n2_;have GE295:=n3_;clear n0_ n1_ n2_ n3_;clear hb hbox hg)
 go_loopg [9] k (fun kq v9 w'=>∃ (x9_1:Int),v9 = .int .i64 x9_1∧Aside0 (fleuronref18_One.l0 kq l0 (l0.length:Int) x9_1 a1_0 a1_1=some r)∧Aside0 (kq≤k)∧Aside0 (w'.heap[gb295]?=some (.cells #[.int .i64 a1_0,.int .i64 a1_1] 47 (0,0)))∧Aside0 (Below w.heap.size w w'))
 case atStart=>exact ⟨(0),(by first|rfl|(simp;done)|(simp [*];done)),H',⟨Nat.le_refl _⟩,⟨by (with_reducible repeat (first|refine blk_drewN ?_ _|refine blk_drew ?_|refine blk_alloc ?_ _));exact BK295.out⟩,⟨by repeat (first|(with_reducible first|exact HB.out|apply below_alloc|apply pw_below_drewN|apply below_drew1|refine below_set ?_ GE295.out)|exact HB.out)⟩⟩
 case round =>
  clear H'
  try clear p2
  obtain ⟨x9_1,rfl,HA,HK1,BK295,HB⟩:=hrel
  cases gk with
  | zero=>exact absurd HA.out (by simp [fleuronref18_One.l0])
  | succ k1 =>
   have H:=HA.out
   clear HA
   simp only [fleuronref18_One.l0] at H
   by_cases c4:x9_1<(l0.length:Int)
   ·rw [if_pos c4] at H
    have c4b0:decide (x9_1<(l0.length:Int))=true:=decide_eq_true c4
    clear c4
    by_cases c5:0≤x9_1
    ·rw [if_pos c5] at H
     have c5b0:decide (0≤x9_1)=true:=decide_eq_true c5
     clear c5
     by_cases c6:x9_1<(l0.length:Int)
     ·rw [if_pos c6] at H
      have c6b0:decide (x9_1<(l0.length:Int))=true:=decide_eq_true c6
      clear c6
      replace H:=Option.bind_eq_some_iff.mp H
      obtain ⟨t297,A70,H⟩:=H
      replace H:(if t297=true then (some true) else (fleuronref18_One.l0 k1 l0 (l0.length:Int) (wrap64 (x9_1+1)) a1_0 a1_1))=some r:=H
      have A7:=aK A70
      clear A70
      by_cases c8:t297=true
      ·subst c8
       have H1:(some true)=some r:=by rw [if_pos rfl] at H;exact H
       clear H
       have H:=H1
       clear H1
       obtain rfl:=Option.some.inj H
       have p296:0≤(x9_1:Int):=of_decide_eq_true (by first|(with_reducible assumption)|assumption)
       have q296:x9_1<(l0.length:Int):=of_decide_eq_true (by first|(with_reducible assumption)|assumption)
       obtain ⟨ad296,A296_0,c296_0,e296,hx296_0,hl296_0,hi296_0⟩:=at_L2 HR0.out x9_1 p296 q296
       cases e296
       replace hx296_0:=(HB.out.cell (World.block_lt_of_cell? w _ hx296_0)).trans hx296_0
       have HR296_0:=aK hi296_0
       have HC296_0:=aK hl296_0
       clear hi296_0 hl296_0
       replace p296:=eq_true p296
       replace q296:=eq_true q296
       have hcz9_0:wr.cell? ⟨gb295,0,none⟩=some (.int .i64 a1_0):=(blk_cell BK295.out 0).trans rfl
       have hcz9_1:wr.cell? ⟨gb295,1,none⟩=some (.int .i64 a1_1):=(blk_cell BK295.out 1).trans rfl
       have hfz9_0:=blk_frozen BK295.out 0
       have hfz9_1:=blk_frozen BK295.out 1
       go_wp2_with ((with_reducible refine gate_callee (f:=87) rfl ?_);refine goesL_ (some 15) rfl rfl Tryz.func87 (by kernel_rfl) rfl #[.slice A296_0 (rd_L2 l0 x9_1).length c296_0,.agg #[.int .i64 a1_0,.int .i64 a1_1]] rfl (by (try simp only [List.map_toArray,List.map_cons,List.map_nil]);first|done|rfl|(simp only [List.length_drop,List.length_take];rfl)) ?_;(with_reducible refine (fleuronref18_Has.calls _ _ (rd_L2 l0 x9_1) a1_0 a1_1 true _ ?side1 ?side2 A7.out).mono ?_);(case side1=>repeat (first|exact (Kd.C_below HR296_0.out HB.out)|(with_reducible refine Kd.C_alloc ?_ _)|(with_reducible refine Kd.C_drewN ?_ _)|(with_reducible refine Kd.C_drew ?_)));(case side2=>exact HC296_0.out);rintro e w10 ⟨rfl,hb⟩;refine ⟨_,rfl,?_⟩;have n0_:=aK (blk_below (g:=gb295) (o:=.cells #[.int .i64 a1_0,.int .i64 a1_1] 47 (0,0)) (by (with_reducible repeat (first|refine blk_drewN ?_ _|refine blk_drew ?_|refine blk_alloc ?_ _));exact BK295.out) hb);have n1_:=aK (below_step (by repeat (first|(with_reducible first|exact HB.out|apply below_alloc|apply pw_below_drewN|apply below_drew1|refine below_set ?_ GE295.out)|exact HB.out)) hb);clear BK295;clear HB;have BK295:=n0_;have HB:=n1_;clear n0_ n1_;(try clear hb);(try clear hb2);(try clear hk);(try clear hi))
       go_ret
       exact ⟨by first|rfl|(simp [errW_none,errW_some] <;> rfl)|(simp [*,errW_none,errW_some] <;> rfl),by repeat (first|(with_reducible first|exact HB.out|apply below_alloc|apply pw_below_drewN|apply below_drew1|refine below_set ?_ GE295.out)|exact HB.out)⟩
      ·replace c8:=Bool.eq_false_iff.mpr c8
       subst c8
       have H1:(fleuronref18_One.l0 k1 l0 (l0.length:Int) (wrap64 (x9_1+1)) a1_0 a1_1)=some r:=by rw [if_neg (show ¬ (false=true) by decide)] at H;exact H
       clear H
       have H:=H1
       clear H1
       have H':=aK H
       clear H
       have p296:0≤(x9_1:Int):=of_decide_eq_true (by first|(with_reducible assumption)|assumption)
       have q296:x9_1<(l0.length:Int):=of_decide_eq_true (by first|(with_reducible assumption)|assumption)
       obtain ⟨ad296,A296_0,c296_0,e296,hx296_0,hl296_0,hi296_0⟩:=at_L2 HR0.out x9_1 p296 q296
       cases e296
       replace hx296_0:=(HB.out.cell (World.block_lt_of_cell? w _ hx296_0)).trans hx296_0
       have HR296_0:=aK hi296_0
       have HC296_0:=aK hl296_0
       clear hi296_0 hl296_0
       replace p296:=eq_true p296
       replace q296:=eq_true q296
       have hcz11_0:wr.cell? ⟨gb295,0,none⟩=some (.int .i64 a1_0):=(blk_cell BK295.out 0).trans rfl
       have hcz11_1:wr.cell? ⟨gb295,1,none⟩=some (.int .i64 a1_1):=(blk_cell BK295.out 1).trans rfl
       have hfz11_0:=blk_frozen BK295.out 0
       have hfz11_1:=blk_frozen BK295.out 1
       go_wp2_with ((with_reducible refine gate_callee (f:=87) rfl ?_);refine goesL_ (some 15) rfl rfl Tryz.func87 (by kernel_rfl) rfl #[.slice A296_0 (rd_L2 l0 x9_1).length c296_0,.agg #[.int .i64 a1_0,.int .i64 a1_1]] rfl (by (try simp only [List.map_toArray,List.map_cons,List.map_nil]);first|done|rfl|(simp only [List.length_drop,List.length_take];rfl)) ?_;(with_reducible refine (fleuronref18_Has.calls _ _ (rd_L2 l0 x9_1) a1_0 a1_1 false _ ?side1 ?side2 A7.out).mono ?_);(case side1=>repeat (first|exact (Kd.C_below HR296_0.out HB.out)|(with_reducible refine Kd.C_alloc ?_ _)|(with_reducible refine Kd.C_drewN ?_ _)|(with_reducible refine Kd.C_drew ?_)));(case side2=>exact HC296_0.out);rintro e w12 ⟨rfl,hb⟩;refine ⟨_,rfl,?_⟩;have n0_:=aK (blk_below (g:=gb295) (o:=.cells #[.int .i64 a1_0,.int .i64 a1_1] 47 (0,0)) (by (with_reducible repeat (first|refine blk_drewN ?_ _|refine blk_drew ?_|refine blk_alloc ?_ _));exact BK295.out) hb);have n1_:=aK (below_step (by repeat (first|(with_reducible first|exact HB.out|apply below_alloc|apply pw_below_drewN|apply below_drew1|refine below_set ?_ GE295.out)|exact HB.out)) hb);clear BK295;clear HB;have BK295:=n0_;have HB:=n1_;clear n0_ n1_;(try clear hb);(try clear hb2);(try clear hk);(try clear hi))
       go_roundg k1
       case measure=>have:=HK1.out;omega
       case rel=>exact ⟨(wrap64 (x9_1+1)),(by first|rfl|(simp;done)|(simp [*];done)),H',⟨by have:=HK1.out;omega⟩,⟨by (with_reducible repeat (first|refine blk_drewN ?_ _|refine blk_drew ?_|refine blk_alloc ?_ _));exact BK295.out⟩,⟨by repeat (first|(with_reducible first|exact HB.out|apply below_alloc|apply pw_below_drewN|apply below_drew1|refine below_set ?_ GE295.out)|exact HB.out)⟩⟩
     ·rw [if_neg c6] at H
      exact absurd H (by simp)
    ·rw [if_neg c5] at H
     exact absurd H (by simp)
   ·rw [if_neg c4] at H
    have c4b0:decide (x9_1<(l0.length:Int))=false:=decide_eq_false c4
    clear c4
    obtain rfl:=Option.some.inj H
    go_wp2
    go_ret
    exact ⟨by first|rfl|(simp [errW_none,errW_some] <;> rfl)|(simp [*,errW_none,errW_some] <;> rfl),by repeat (first|(with_reducible first|exact HB.out|apply below_alloc|apply pw_below_drewN|apply below_drew1|refine below_set ?_ GE295.out)|exact HB.out)⟩
mutual
def fleuronref19_Pen.j0:Nat→List (S47)→List (S47)→Int→Int→Bool→Option ((List (S23))×Int)
 | 0,_,_,_,_,_=>none
 | k+1,x0,x1,x2,x3,x22=>if x22=true then (some (([]:List (S23)),2)) else ((fleuronref18_Hulls.f k x0 x1).bind fun t300=>(fleuronref19_Pen.l0 k x3 t300 ([]:List Bool) x2 0))
def fleuronref19_Pen.l0:Nat→Int→List (List (S47))→List Bool→Int→Int→Option ((List (S23))×Int)
 | 0,_,_,_,_,_=>none
 | k+1,x3,x10,x11,x26,x27=>if x27<x26 then ((fleuronref19_Sample.f x27 x3).bind fun bt303=>((fleuronref18_One.f k x10 bt303.1 bt303.2).bind fun t305=>(if x11.length<140737488355328 then (fleuronref19_Pen.l0 k x3 x10 (x11++[t305]) x26 (wrap64 (x27+1))) else (none)))) else ((fleuronref19_Spans.f k x11).bind fun t309=>(some (t309,0)))
end
def fleuronref19_Pen.f (k:Nat) (l0:List (S47)) (l1:List (S47)) (a2:Int) (a3:Int):Option ((List (S23))×Int):=(fleuronref18_Drawn.f k l0 l1).bind fun t298=>(if t298=true then ((fleuronref19_row.f a2 a3).bind fun t299=>(fleuronref19_Pen.j0 k l0 l1 a2 a3 (!t299))) else (fleuronref19_Pen.j0 k l0 l1 a2 a3 true))
theorem fleuronref19_Pen.mono_l : ∀ k,(∀ y0 y1 y2 y3 y4,LeO (fleuronref19_Pen.j0 k y0 y1 y2 y3 y4) (fleuronref19_Pen.j0 (k+1) y0 y1 y2 y3 y4))∧(∀ y0 y1 y2 y3 y4,LeO (fleuronref19_Pen.l0 k y0 y1 y2 y3 y4) (fleuronref19_Pen.l0 (k+1) y0 y1 y2 y3 y4))
 | 0=>⟨fun _ _ _ _ _ r h=>by simp [fleuronref19_Pen.j0] at h,fun _ _ _ _ _ r h=>by simp [fleuronref19_Pen.l0] at h⟩
 | k+1=>by
  obtain ⟨ih0,ih1⟩:=fleuronref19_Pen.mono_l k
  refine ⟨?_,?_⟩
  ·intro y0 y1 y2 y3 y4
   unfold fleuronref19_Pen.j0
   repeat' first
   | (with_reducible exact ih0 _ _ _ _ _)
   | (with_reducible exact ih1 _ _ _ _ _)
   | (with_reducible exact fleuronref18_Drawn.mono _ _ _)
   | (with_reducible exact fleuronref18_Hulls.mono _ _ _)
   | (with_reducible exact fleuronref18_One.mono _ _ _ _)
   | (with_reducible exact fleuronref19_Spans.mono _ _)
   | (with_reducible exact LeO.refl _)
   | (with_reducible exact LeO.none _)
   | (with_reducible refine LeO.ite ?_ ?_)
   | (with_reducible refine LeO.bind ?_ (fun _=>?_))
   | exact ih0 _ _ _ _ _
   | exact ih1 _ _ _ _ _
   | exact fleuronref18_Drawn.mono _ _ _
   | exact fleuronref18_Hulls.mono _ _ _
   | exact fleuronref18_One.mono _ _ _ _
   | exact fleuronref19_Spans.mono _ _
   | exact LeO.none _
   | refine LeO.ite ?_ ?_
   | refine LeO.bind ?_ (fun _=>?_)
  ·intro y0 y1 y2 y3 y4
   unfold fleuronref19_Pen.l0
   repeat' first
   | (with_reducible exact ih0 _ _ _ _ _)
   | (with_reducible exact ih1 _ _ _ _ _)
   | (with_reducible exact fleuronref18_Drawn.mono _ _ _)
   | (with_reducible exact fleuronref18_Hulls.mono _ _ _)
   | (with_reducible exact fleuronref18_One.mono _ _ _ _)
   | (with_reducible exact fleuronref19_Spans.mono _ _)
   | (with_reducible exact LeO.refl _)
   | (with_reducible exact LeO.none _)
   | (with_reducible refine LeO.ite ?_ ?_)
   | (with_reducible refine LeO.bind ?_ (fun _=>?_))
   | exact ih0 _ _ _ _ _
   | exact ih1 _ _ _ _ _
   | exact fleuronref18_Drawn.mono _ _ _
   | exact fleuronref18_Hulls.mono _ _ _
   | exact fleuronref18_One.mono _ _ _ _
   | exact fleuronref19_Spans.mono _ _
   | exact LeO.none _
   | refine LeO.ite ?_ ?_
   | refine LeO.bind ?_ (fun _=>?_)
theorem fleuronref19_Pen.mono : ∀ a0 a1 a2 a3 k,LeO (fleuronref19_Pen.f k a0 a1 a2 a3) (fleuronref19_Pen.f (k+1) a0 a1 a2 a3):=by
 intro a0 a1 a2 a3 k
 obtain ⟨ih0,ih1⟩:=fleuronref19_Pen.mono_l k
 unfold fleuronref19_Pen.f
 repeat' first
   | (with_reducible exact ih0 _ _ _ _ _)
   | (with_reducible exact ih1 _ _ _ _ _)
   | (with_reducible exact fleuronref18_Drawn.mono _ _ _)
   | (with_reducible exact fleuronref18_Hulls.mono _ _ _)
   | (with_reducible exact fleuronref18_One.mono _ _ _ _)
   | (with_reducible exact fleuronref19_Spans.mono _ _)
   | (with_reducible exact LeO.refl _)
   | (with_reducible exact LeO.none _)
   | (with_reducible refine LeO.ite ?_ ?_)
   | (with_reducible refine LeO.bind ?_ (fun _=>?_))
   | exact ih0 _ _ _ _ _
   | exact ih1 _ _ _ _ _
   | exact fleuronref18_Drawn.mono _ _ _
   | exact fleuronref18_Hulls.mono _ _ _
   | exact fleuronref18_One.mono _ _ _ _
   | exact fleuronref19_Spans.mono _ _
   | exact LeO.none _
   | refine LeO.ite ?_ ?_
   | refine LeO.bind ?_ (fun _=>?_)
set_option maxHeartbeats 8000000 in
theorem fleuronref19_Pen.calls (k:Nat) (A0:Option Addr) (c0:Nat) (l0:List (S47)) (A1:Option Addr) (c1:Nat) (l1:List (S47)) (a2:Int) (a3:Int) (r1:List (S23)) (r2:Int) (w:World) (hr0:Kd.C k47 w A0 l0.length l0) (hc0:l0.length≤c0) (hr1:Kd.C k47 w A1 l1.length l1) (hc1:l1.length≤c1) (h:fleuronref19_Pen.f k l0 l1 a2 a3=some (r1,r2)) :
  Calls Tryz.prog 16 #[.slice A0 l0.length c0,.slice A1 l1.length c1,.int .i64 a2,.int .i64 a3] w fun e w'=>∃ v0_:Value,e = .returned (.tuple #[v0_,.int .i64 r2])∧Kd.R k23 23 w' w.heap.size (fun _=>True) v0_ r1∧Below w.heap.size w w':=by
 have HR0:=aK hr0
 have HC0:=aK hc0
 clear hr0 hc0
 have HR1:=aK hr1
 have HC1:=aK hc1
 clear hr1 hc1
 have HB:=aK (Below.refl w.heap.size w)
 have H:((fleuronref18_Drawn.f k l0 l1).bind fun t298=>(if t298=true then ((fleuronref19_row.f a2 a3).bind fun t299=>(fleuronref19_Pen.j0 k l0 l1 a2 a3 (!t299))) else (fleuronref19_Pen.j0 k l0 l1 a2 a3 true)))=some (r1,r2):=h
 clear h
 have HC5:=aK H
 clear H
 go_enter Tryz.func16,Tryz.ntmps16
 go_upto_region 1 with (fail)
 go_cut [22] (fun v22 wc=>∃ (kq:Nat) (x22_4:Bool),v22 = .bool x22_4∧Aside0 (fleuronref19_Pen.j0 kq l0 l1 a2 a3 x22_4=some (r1,r2))∧Aside0 (kq≤k)∧Aside0 (Below w.heap.size w wc))
 case first =>
  have H:=HC5.out
  clear HC5
  replace H:=Option.bind_eq_some_iff.mp H
  obtain ⟨t298,A60,H⟩:=H
  replace H:(if t298=true then ((fleuronref19_row.f a2 a3).bind fun t299=>(fleuronref19_Pen.j0 k l0 l1 a2 a3 (!t299))) else (fleuronref19_Pen.j0 k l0 l1 a2 a3 true))=some (r1,r2):=H
  have A6:=aK A60
  clear A60
  by_cases c7:t298=true
  ·subst c7
   have H1:((fleuronref19_row.f a2 a3).bind fun t299=>(fleuronref19_Pen.j0 k l0 l1 a2 a3 (!t299)))=some (r1,r2):=by rw [if_pos rfl] at H;exact H
   clear H
   have H:=H1
   clear H1
   replace H:=Option.bind_eq_some_iff.mp H
   obtain ⟨t299,A80,H⟩:=H
   replace H:(fleuronref19_Pen.j0 k l0 l1 a2 a3 (!t299))=some (r1,r2):=H
   have A8:=aK A80
   clear A80
   have H':=aK H
   clear H
   go_wp2_with (first|((with_reducible refine gate_callee (f:=45) rfl ?_);refine goesL_ (some 15) rfl rfl Tryz.func45 (by kernel_rfl) rfl #[.slice A0 l0.length c0,.slice A1 l1.length c1] rfl (by (try simp only [List.map_toArray,List.map_cons,List.map_nil]);first|done|rfl|(simp only [List.length_drop,List.length_take];rfl)) ?_;(with_reducible refine (fleuronref18_Drawn.calls k _ _ l0 _ _ l1 true _ ?side1 ?side2 ?side3 ?side4 A6.out).mono ?_);(case side1=>repeat (first|exact (Kd.C_below HR0.out HB.out)|(with_reducible refine Kd.C_alloc ?_ _)|(with_reducible refine Kd.C_drewN ?_ _)|(with_reducible refine Kd.C_drew ?_)));(case side2=>exact HC0.out);(case side3=>repeat (first|exact (Kd.C_below HR1.out HB.out)|(with_reducible refine Kd.C_alloc ?_ _)|(with_reducible refine Kd.C_drewN ?_ _)|(with_reducible refine Kd.C_drew ?_)));(case side4=>exact HC1.out);rintro e w9 ⟨rfl,hb⟩;refine ⟨_,rfl,?_⟩;have n0_:=aK (below_step (by repeat (first|(with_reducible first|exact HB.out|apply below_alloc|apply pw_below_drewN|apply below_drew1)|exact HB.out)) hb);clear HB;have HB:=n0_;clear n0_;(try clear hb);(try clear hb2);(try clear hk);(try clear hi))|(go_at_call 36;(with_reducible refine (fleuronref19_row.calls a2 a3 t299 _ A8.out).mono ?_);rintro e w' ⟨rfl,⟨nd,rfl⟩⟩))
   go_meet
   case rel=>exact ⟨_,(!t299),(by first|rfl|(simp;done)|(simp [*];done)),H',⟨by first|omega|exact Nat.le_refl _⟩,⟨by repeat (first|(with_reducible first|exact HB.out|apply below_alloc|apply pw_below_drewN|apply below_drew1)|exact HB.out)⟩⟩
  ·replace c7:=Bool.eq_false_iff.mpr c7
   subst c7
   have H1:(fleuronref19_Pen.j0 k l0 l1 a2 a3 true)=some (r1,r2):=by rw [if_neg (show ¬ (false=true) by decide)] at H;exact H
   clear H
   have H:=H1
   clear H1
   have H':=aK H
   clear H
   go_wp2_with ((with_reducible refine gate_callee (f:=45) rfl ?_);refine goesL_ (some 15) rfl rfl Tryz.func45 (by kernel_rfl) rfl #[.slice A0 l0.length c0,.slice A1 l1.length c1] rfl (by (try simp only [List.map_toArray,List.map_cons,List.map_nil]);first|done|rfl|(simp only [List.length_drop,List.length_take];rfl)) ?_;(with_reducible refine (fleuronref18_Drawn.calls k _ _ l0 _ _ l1 false _ ?side1 ?side2 ?side3 ?side4 A6.out).mono ?_);(case side1=>repeat (first|exact (Kd.C_below HR0.out HB.out)|(with_reducible refine Kd.C_alloc ?_ _)|(with_reducible refine Kd.C_drewN ?_ _)|(with_reducible refine Kd.C_drew ?_)));(case side2=>exact HC0.out);(case side3=>repeat (first|exact (Kd.C_below HR1.out HB.out)|(with_reducible refine Kd.C_alloc ?_ _)|(with_reducible refine Kd.C_drewN ?_ _)|(with_reducible refine Kd.C_drew ?_)));(case side4=>exact HC1.out);rintro e w10 ⟨rfl,hb⟩;refine ⟨_,rfl,?_⟩;have n0_:=aK (below_step (by repeat (first|(with_reducible first|exact HB.out|apply below_alloc|apply pw_below_drewN|apply below_drew1)|exact HB.out)) hb);clear HB;have HB:=n0_;clear n0_;(try clear hb);(try clear hb2);(try clear hk);(try clear hi))
   go_meet
   case rel=>exact ⟨_,(true),(by first|rfl|(simp;done)|(simp [*];done)),H',⟨by first|omega|exact Nat.le_refl _⟩,⟨by repeat (first|(with_reducible first|exact HB.out|apply below_alloc|apply pw_below_drewN|apply below_drew1)|exact HB.out)⟩⟩
 case rest =>
  clear HC5
  try clear c1
  try clear p2
  try clear c4
  try clear c7
  obtain ⟨kq,x22_4,rfl,HA,HJ4,HB⟩:=hcut
  cases kq with
  | zero=>exact absurd HA.out (by simp [fleuronref19_Pen.j0])
  | succ kj4 =>
   have H:=HA.out
   clear HA
   simp only [fleuronref19_Pen.j0] at H
   by_cases c11:x22_4=true
   ·subst c11
    have H1:(some (([]:List (S23)),2))=some (r1,r2):=by rw [if_pos rfl] at H;exact H
    clear H
    have H:=H1
    clear H1
    simp only [Option.some.injEq,Prod.mk.injEq] at H
    obtain ⟨rfl,rfl⟩:=H
    go_wp2
    go_ret2
    exact ⟨_,by first|rfl|(simp [errW_none,errW_some] <;> rfl)|(simp [*,errW_none,errW_some] <;> rfl),by first|exact Kd.R_nil _ _ _ _ _|exact Kd.N_nil _ _ _ _ _|exact Kd.V_nil _ _ _ _ _|exact Kd.Q_nil _ _ _ _ _|exact Kd.S_nil _ _ _ _ _,by repeat (first|(with_reducible first|exact HB.out|apply below_alloc|apply pw_below_drewN|apply below_drew1)|exact HB.out)⟩
   ·replace c11:=Bool.eq_false_iff.mpr c11
    subst c11
    have H1:((fleuronref18_Hulls.f kj4 l0 l1).bind fun t300=>(fleuronref19_Pen.l0 kj4 a3 t300 ([]:List Bool) a2 0))=some (r1,r2):=by rw [if_neg (show ¬ (false=true) by decide)] at H;exact H
    clear H
    have H:=H1
    clear H1
    replace H:=Option.bind_eq_some_iff.mp H
    obtain ⟨t300,A120,H⟩:=H
    replace H:(fleuronref19_Pen.l0 kj4 a3 t300 ([]:List Bool) a2 0)=some (r1,r2):=H
    have A12:=aK A120
    clear A120
    have H':=aK H
    clear H
    go_wp2_with ((with_reducible refine gate_callee (f:=46) rfl ?_);refine goesL_ (some 25) rfl rfl Tryz.func46 (by kernel_rfl) rfl #[.slice A0 l0.length c0,.slice A1 l1.length c1] rfl (by (try simp only [List.map_toArray,List.map_cons,List.map_nil]);first|done|rfl|(simp only [List.length_drop,List.length_take];rfl)) ?_;(with_reducible refine (fleuronref18_Hulls.calls kj4 _ _ l0 _ _ l1 t300 _ ?side1 ?side2 ?side3 ?side4 A12.out).mono ?_);(case side1=>repeat (first|exact (Kd.C_below HR0.out HB.out)|(with_reducible refine Kd.C_alloc ?_ _)|(with_reducible refine Kd.C_drewN ?_ _)|(with_reducible refine Kd.C_drew ?_)));(case side2=>exact HC0.out);(case side3=>repeat (first|exact (Kd.C_below HR1.out HB.out)|(with_reducible refine Kd.C_alloc ?_ _)|(with_reducible refine Kd.C_drewN ?_ _)|(with_reducible refine Kd.C_drew ?_)));(case side4=>exact HC1.out);rintro e w13 ⟨v301,rfl,ho0,hb⟩;refine ⟨_,rfl,?_⟩;have n0_:=aK (Kd.N_lower (Kd.N_mono (ok':=fun k_=>True) ho0 (fun k_ hk_=>trivial)) (below_size (by repeat (first|(with_reducible first|exact HB.out|apply below_alloc|apply pw_below_drewN|apply below_drew1)|exact HB.out))));have n1_:=aK (below_step (by repeat (first|(with_reducible first|exact HB.out|apply below_alloc|apply pw_below_drewN|apply below_drew1)|exact HB.out)) hb);clear HB;have HO302:=n0_;have HB:=n1_;clear n0_ n1_;(try clear hb);(try clear hb2);(try clear hk);(try clear hi);(try clear ho0))
    go_loopg [11,27] kj4 (fun kq v11 v27 w'=>∃ (x11_2:List Bool) (x27_2:Int),v27 = .int .i64 x27_2∧Aside0 (fleuronref19_Pen.l0 kq a3 t300 x11_2 a2 x27_2=some (r1,r2))∧Aside0 (kq≤kj4)∧Aside0 (Kd.N (Kd.slice 47 k47) 34 w' w.heap.size (fun k_=>some k_≠(v11:Value).ownBlock) v301 t300)∧Aside0 (Kd.R Kd.bool 4 w' w.heap.size (fun _=>True) v11 x11_2)∧Aside0 (Below w.heap.size w w'))
    case atStart=>exact ⟨(([]:List Bool)),(0),(by first|rfl|(simp;done)|(simp [*];done)),H',⟨Nat.le_refl _⟩,⟨by (with_reducible repeat (first|apply Kd.N_alloc|apply Kd.N_drewN|apply Kd.N_drew));exact Kd.N_mono HO302.out (fun _ hk=>(by simp [Value.ownBlock]))⟩,⟨by first|exact Kd.R_nil _ _ _ _ _|exact Kd.N_nil _ _ _ _ _|exact Kd.V_nil _ _ _ _ _|exact Kd.Q_nil _ _ _ _ _|exact Kd.S_nil _ _ _ _ _⟩,⟨by repeat (first|(with_reducible first|exact HB.out|apply below_alloc|apply pw_below_drewN|apply below_drew1)|exact HB.out)⟩⟩
    case round =>
     clear H'
     try clear c1
     try clear p2
     try clear c4
     try clear c7
     try clear c11
     try clear p2
     obtain ⟨x11_2,x27_2,rfl,HA,HK2,HO_10,HO_11,HB⟩:=hrel
     cases gk with
     | zero=>exact absurd HA.out (by simp [fleuronref19_Pen.l0])
     | succ k2 =>
      have H:=HA.out
      clear HA
      simp only [fleuronref19_Pen.l0] at H
      by_cases c14:x27_2<a2
      ·rw [if_pos c14] at H
       have c14b0:decide (x27_2<a2)=true:=decide_eq_true c14
       clear c14
       replace H:=Option.bind_eq_some_iff.mp H
       obtain ⟨⟨t303,t304⟩,A150,H⟩:=H
       replace H:((fleuronref18_One.f k2 t300 t303 t304).bind fun t305=>(if x11_2.length<140737488355328 then (fleuronref19_Pen.l0 k2 a3 t300 (x11_2++[t305]) a2 (wrap64 (x27_2+1))) else (none)))=some (r1,r2):=H
       have A15:=aK A150
       clear A150
       replace H:=Option.bind_eq_some_iff.mp H
       obtain ⟨t305,A160,H⟩:=H
       replace H:(if x11_2.length<140737488355328 then (fleuronref19_Pen.l0 k2 a3 t300 (x11_2++[t305]) a2 (wrap64 (x27_2+1))) else (none))=some (r1,r2):=H
       have A16:=aK A160
       clear A160
       by_cases c17:x11_2.length<140737488355328
       ·rw [if_pos c17] at H
        have LMc17:=aK c17
        clear c17
        obtain ⟨y306,hy306⟩ : ∃ y_:List Bool,y_=(x11_2++[t305]):=⟨_,rfl⟩
        replace H:(fleuronref19_Pen.l0 k2 a3 t300 y306 a2 (wrap64 (x27_2+1)))=some (r1,r2):=by first|(rw [hy306];with_reducible exact H)|(have H2_:=(Option.bind_some _ _).symm.trans H;rw [hy306];with_reducible exact H2_)|(have H2_:=(Option.bind_some _ _).symm.trans H;with_reducible exact H2_)|with_reducible exact H|(rw [hy306];exact H)|exact H
        have Ny306:=aK hy306
        clear hy306
        have H':=aK H
        clear H
        go_wp2_with (first|((with_reducible refine gate_callee (f:=31) rfl ?_);refine goesL_ (some 34) rfl rfl Tryz.func31 (by kernel_rfl) rfl #[.int .i64 x27_2,.int .i64 a3] rfl (by (try simp only [List.map_toArray,List.map_cons,List.map_nil]);first|done|rfl|(simp only [List.length_drop,List.length_take];rfl)) ?_;(with_reducible refine (fleuronref19_Sample.calls x27_2 a3 t303 t304 _ A15.out).mono ?_);rintro e w18 ⟨rfl,hb⟩;refine ⟨_,rfl,?_⟩;have n0_:=aK (Kd.N_below (by (with_reducible repeat (first|apply Kd.N_alloc|apply Kd.N_drewN|apply Kd.N_drew));exact HO_10.out) hb);have n1_:=aK (Kd.R_below (by (with_reducible repeat (first|apply Kd.R_alloc|apply Kd.R_drewN|apply Kd.R_drew));exact HO_11.out) hb);have n2_:=aK (below_step (by repeat (first|(with_reducible first|exact HB.out|apply below_alloc|apply pw_below_drewN|apply below_drew1)|exact HB.out)) hb);clear HO_10;clear HO_11;clear HB;have HO_10:=n0_;have HO_11:=n1_;have HB:=n2_;clear n0_ n1_ n2_;(try clear hb);(try clear hb2);(try clear hk);(try clear hi);obtain ⟨Ao19,co19,eo19⟩:=Kd.N_slice HO_10.out;subst eo19)|((with_reducible refine gate_callee (f:=47) rfl ?_);refine goesL_ (some 35) rfl rfl Tryz.func47 (by kernel_rfl) rfl #[.slice Ao19 t300.length co19,.agg #[.int .i64 t303,.int .i64 t304]] rfl (by (try simp only [List.map_toArray,List.map_cons,List.map_nil]);first|done|rfl|(simp only [List.length_drop,List.length_take];rfl)) ?_;(with_reducible refine (fleuronref18_One.calls k2 _ _ t300 t303 t304 t305 _ ?side1 ?side2 A16.out).mono ?_);(case side1=>repeat (first|exact (Kd.N_reads' HO_10.out).2.2|(with_reducible refine Kd.C_alloc ?_ _)|(with_reducible refine Kd.C_drewN ?_ _)|(with_reducible refine Kd.C_drew ?_)));(case side2=>exact (Kd.N_reads' HO_10.out).2.1);rintro e w20 ⟨rfl,hb⟩;refine ⟨_,rfl,?_⟩;have n0_:=aK (Kd.N_below (by (with_reducible repeat (first|apply Kd.N_alloc|apply Kd.N_drewN|apply Kd.N_drew));exact HO_10.out) hb);have n1_:=aK (Kd.R_below (by (with_reducible repeat (first|apply Kd.R_alloc|apply Kd.R_drewN|apply Kd.R_drew));exact HO_11.out) hb);have n2_:=aK (below_step (by repeat (first|(with_reducible first|exact HB.out|apply below_alloc|apply pw_below_drewN|apply below_drew1)|exact HB.out)) hb);clear HO_10;clear HO_11;clear HB;have HO_10:=n0_;have HO_11:=n1_;have HB:=n2_;clear n0_ n1_ n2_;(try clear hb);(try clear hb2);(try clear hk);(try clear hi))|((with_reducible refine gate_builtin (b:=.append) (xs:=#[.tmp 30,.tmp 36]) rfl ?_);at_builtin;refine Kd.R_append Kd.bool (w0:=w) w.heap.size rfl (.tmp 30) (.tmp 36) 51 4 (.bool false) 1 rfl Tryz.underlying51 info4 rfl (by decide) (by omega) u11 x11_2 t305 [.bool t305] (fun _=>True) (fun _=>False) rfl rfl ?aP (fun _ hk=>hk.elim) ?aF ?aO ?aB ?aS ?aL ?_;(case aP=>exact rfl);(case aB=>exact (by repeat (first|(with_reducible first|exact HB.out|apply below_alloc|apply pw_below_drewN|apply below_drew1)|exact HB.out)));(case aF=>exact (fun _ _=>trivial));(case aO=>exact (by (with_reducible repeat (first|apply Kd.R_alloc|apply Kd.R_drewN|apply Kd.R_drew));exact HO_11.out));(case aS=>exact (below_size (by repeat (first|(with_reducible first|exact HB.out|apply below_alloc|apply pw_below_drewN|apply below_drew1)|exact HB.out))));(case aL=>have:=LMc17.out;omega);intro v307 w21 ho hb hg hat;rw [← Ny306.out] at ho;have n0_:=aK (Kd.N_afterv (ok:=(fun _=>True)) (by (with_reducible repeat (first|apply Kd.N_alloc|apply Kd.N_drewN|apply Kd.N_drew));exact Kd.N_mono HO_10.out (fun _ hk=>⟨trivial,hk⟩)) hg hat);have n1_:=aK (hb);have n2_:=aK (ho);clear HO_10;clear HB;clear HO_11;have HO_10:=n0_;have HB:=n1_;have HO308:=n2_;clear n0_ n1_ n2_;clear ho hb hg hat))
        go_roundg k2
        case measure=>have:=HJ4.out;have:=HK2.out;omega
        case rel=>exact ⟨(y306),(wrap64 (x27_2+1)),(by first|rfl|(simp;done)|(simp [*];done)),H',⟨by have:=HJ4.out;have:=HK2.out;omega⟩,⟨by (with_reducible repeat (first|apply Kd.N_alloc|apply Kd.N_drewN|apply Kd.N_drew));exact Kd.N_mono HO_10.out (fun _ hk=>hk.2)⟩,⟨by (with_reducible repeat (first|apply Kd.R_alloc|apply Kd.R_drewN|apply Kd.R_drew));exact HO308.out⟩,⟨by repeat (first|(with_reducible first|exact HB.out|apply below_alloc|apply pw_below_drewN|apply below_drew1)|exact HB.out)⟩⟩
       ·rw [if_neg c17] at H
        exact absurd H (by simp)
      ·rw [if_neg c14] at H
       have c14b0:decide (x27_2<a2)=false:=decide_eq_false c14
       clear c14
       replace H:=Option.bind_eq_some_iff.mp H
       obtain ⟨t309,A220,H⟩:=H
       replace H:(some (t309,0))=some (r1,r2):=H
       have A22:=aK A220
       clear A220
       simp only [Option.some.injEq,Prod.mk.injEq] at H
       obtain ⟨rfl,rfl⟩:=H
       obtain ⟨Ao23,co23,eo23⟩:=Kd.R_slice HO_11.out
       subst eo23
       go_wp2_with ((with_reducible refine gate_callee (f:=38) rfl ?_);refine goesL_ (some 40) rfl rfl Tryz.func38 (by kernel_rfl) rfl #[.slice Ao23 x11_2.length co23] rfl (by (try simp only [List.map_toArray,List.map_cons,List.map_nil]);first|done|rfl|(simp only [List.length_drop,List.length_take];rfl)) ?_;(with_reducible refine (fleuronref19_Spans.calls k2 _ _ x11_2 t309 _ ?side1 ?side2 A22.out).mono ?_);(case side1=>repeat (first|exact (Kd.R_reads' HO_11.out).2.2|(with_reducible refine Kd.C_alloc ?_ _)|(with_reducible refine Kd.C_drewN ?_ _)|(with_reducible refine Kd.C_drew ?_)));(case side2=>exact (Kd.R_reads' HO_11.out).2.1);rintro e w24 ⟨v310,rfl,ho0,hb⟩;refine ⟨_,rfl,?_⟩;have n0_:=aK (Kd.N_elder' (by (with_reducible repeat (first|apply Kd.N_alloc|apply Kd.N_drewN|apply Kd.N_drew));exact HO_10.out) (Kd.R_base ho0) hb);have n1_:=aK (Kd.R_below (by (with_reducible repeat (first|apply Kd.R_alloc|apply Kd.R_drewN|apply Kd.R_drew));exact HO_11.out) hb);have n2_:=aK (Kd.R_lower ho0 (below_size (by repeat (first|(with_reducible first|exact HB.out|apply below_alloc|apply pw_below_drewN|apply below_drew1)|exact HB.out))));have n3_:=aK (below_step (by repeat (first|(with_reducible first|exact HB.out|apply below_alloc|apply pw_below_drewN|apply below_drew1)|exact HB.out)) hb);clear HO_10;clear HO_11;clear HB;have HO_10:=n0_;have HO_11:=n1_;have HO311:=n2_;have HB:=n3_;clear n0_ n1_ n2_ n3_;(try clear hb);(try clear hb2);(try clear hk);(try clear hi);(try clear ho0))
       go_ret2
       exact ⟨_,by first|rfl|(simp [errW_none,errW_some] <;> rfl)|(simp [*,errW_none,errW_some] <;> rfl),by (with_reducible repeat (first|apply Kd.R_alloc|apply Kd.R_drewN|apply Kd.R_drew));exact HO311.out,by repeat (first|(with_reducible first|exact HB.out|apply below_alloc|apply pw_below_drewN|apply below_drew1)|exact HB.out)⟩
end Go.Proofs.YtckjlckhjcbddaaGreat.PG3
