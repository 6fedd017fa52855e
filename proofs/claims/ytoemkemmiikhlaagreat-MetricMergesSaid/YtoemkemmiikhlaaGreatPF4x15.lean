import Derived.Test.YtoemkemmiikhlaaGreatPF4x0
import Derived.Test.YtoemkemmiikhlaaGreatPF4x1
import Derived.Test.YtoemkemmiikhlaaGreatPF4x2
import Derived.Test.YtoemkemmiikhlaaGreatPF4x3
import Derived.Test.YtoemkemmiikhlaaGreatPF4x7
import Derived.Test.YtoemkemmiikhlaaGreatPF4x8
import Derived.Test.YtoemkemmiikhlaaGreatPF4x9
import Derived.Test.YtoemkemmiikhlaaGreatPF4x14
namespace Go.Proofs.YtoemkemmiikhlaaGreat.PF4
open Go.RowKit Go.Proofs.YtoemkemmiikhlaaGreatW.PrintWords Go.Proofs.YtoemkemmiikhlaaGreatW.PrintLast Go.Proofs.YtoemkemmiikhlaaGreatW.PrintMore
attribute [local go_sem] max2_int min2_int max_two min_two max_three min_three max_four min_four
set_option linter.unusedVariables false
set_option linter.unusedSimpArgs false
theorem twiceMC_calls (A:Option Addr) (c:Nat) (l:List S50) (w:World) (hr:Kd.C k50 w A l.length l) (hl:l.length≤1000000000000):Calls Tryz.prog 53 #[.slice A l.length c,.func (.func 36) #[] #[]] w fun e w'=>e = .returned (.bool (!(chainB (fun x y=>!(cmpC x y == 0)) l)))∧Below w.heap.size w w' :=
 twice_prsC 36 cmpC (enters_own Tryz.func36 (by kernel_rfl) rfl) A c l w (fun W x y=>cmpC_calls W x y) hr hl
theorem twiceMR_calls (A:Option Addr) (c:Nat) (l:List S45) (w:World) (hr:Kd.C k45 w A l.length l) (hl:l.length≤1000000000000):Calls Tryz.prog 54 #[.slice A l.length c,.func (.func 55) #[] #[]] w fun e w'=>e = .returned (.bool (!(chainB (fun x y=>!(cmpR x y == 0)) l)))∧Below w.heap.size w w' :=
 twice_prsR 55 cmpR (enters_own Tryz.func55 (by kernel_rfl) rfl) A c l w (fun W x y=>cmpR_calls W x y) hr hl
theorem lit2_C {α:Type} {d:Kd α} {e:Nat} {W:World} {b:Nat} {t:TypeId} {A1 A2:Option Addr} {c1 c2:Nat} {l1 l2:List α} (hb:W.heap[b]?=some (.cells #[.slice A1 l1.length c1,.slice A2 l2.length c2] t (0,0))) (h1:d.C W A1 l1.length l1) (hc1:l1.length≤c1) (h2:d.C W A2 l2.length l2) (hc2:l2.length≤c2):Kd.C (Kd.slice e d) W (some ⟨b,0,none⟩) 2 [l1,l2]:=by
 refine ⟨rfl,by decide,fun _=>⟨⟨b,0,none⟩,rfl,fun j p hj=>?_⟩⟩
 rcases j with _|j
 ·obtain rfl:l1=p:=by simpa using hj
  refine ⟨[.slice A1 l1.length c1],rfl,⟨A1,c1,rfl,hc1,h1⟩,fun i u hu=>?_⟩
  rcases i with _|i
  ·obtain rfl:Value.slice A1 l1.length c1=u:=by simpa using hu
   exact (blk_cell hb 0).trans rfl
  ·simp at hu
 ·rcases j with _|j
  ·obtain rfl:l2=p:=by simpa using hj
   refine ⟨[.slice A2 l2.length c2],rfl,⟨A2,c2,rfl,hc2,h2⟩,fun i u hu=>?_⟩
   rcases i with _|i
   ·obtain rfl:Value.slice A2 l2.length c2=u:=by simpa using hu
    exact (blk_cell hb 1).trans rfl
   ·simp at hu
  ·simp at hj
def mergeE (sz:Int) (ca:List S50) (ra:List S45) (sz2:Int) (cb:List S50) (rb:List S45) (cs:List S50) (rs:List S45):Int×List S50×List S45×Int :=
 if validM sz ca ra && validM sz2 cb rb then (if sz == sz2 then (if chainB (fun x y=>!(cmpC x y == 0)) cs && chainB (fun x y=>!(cmpR x y == 0)) rs then (if validM sz cs rs then (sz,cs,rs,0) else (0,[],[],3)) else (0,[],[],14)) else (0,[],[],5)) else (0,[],[],2)
structure MgB (w W:World) (b2 b3 b4:Nat) (sz sz2:Int) (v1 v2 u1 u2:Value):Prop where
 ma:W.heap[b2]?=some (.cells #[.int .i64 sz,v1,v2] 25 (0,0))
 mb:W.heap[b3]?=some (.cells #[.int .i64 sz2,u1,u2] 25 (0,0))
 res:W.heap[b4]?=some (.cells #[.int .i64 0,.slice none 0 0,.slice none 0 0] 25 (0,0))
 below:Below w.heap.size w W
theorem MgB.ofBelow {w W W':World} {b2 b3 b4:Nat} {sz sz2:Int} {v1 v2 u1 u2:Value} (h:MgB w W b2 b3 b4 sz sz2 v1 v2 u1 u2) (hb:Below W.heap.size W W'):MgB w W' b2 b3 b4 sz sz2 v1 v2 u1 u2 :=
 ⟨blk_below h.ma hb,blk_below h.mb hb,blk_below h.res hb,below_step h.below hb⟩
structure MgS where
 ba:Nat
 bb:Nat
 bx:Nat
 A5:Option Addr
 c5:Nat
 A6:Option Addr
 c6:Nat
 A3:Option Addr
 c3:Nat
 A4:Option Addr
 c4:Nat
 cs:List S50
 rs:List S45
theorem validM_len {sz:Int} {cs:List S50} {rs:List S45} (hv:validM sz cs rs=true):cs.length≤256∧rs.length≤500:=by
 unfold validM validR at hv
 simp only [Bool.and_eq_true,decide_eq_true_eq] at hv
 omega
set_option maxHeartbeats 16000000 in
set_option maxRecDepth 100000 in
theorem merge_calls (sz : Int) (A1 : Option Addr) (c1 : Nat) (ca : List S50) (A2 : Option Addr) (c2 : Nat) (ra : List S45) (sz2 : Int) (B1 : Option Addr) (d1 : Nat) (cb : List S50) (B2 : Option Addr) (d2 : Nat) (rb : List S45) (w : World)
  (hr1:Kd.C k50 w A1 ca.length ca) (hc1:ca.length≤c1) (hr2:Kd.C k45 w A2 ra.length ra) (hc2:ra.length≤c2) (hr3:Kd.C k50 w B1 cb.length cb) (hc3:cb.length≤d1) (hr4:Kd.C k45 w B2 rb.length rb) (hc4:rb.length≤d2)
  (hl1:ca.length≤1000000) (hl2:ra.length≤1000000) (hl3:cb.length≤1000000) (hl4:rb.length≤1000000) (hex : ∃ cs rs,(cs.Perm (ca++cb)∧RiseC cs)∧(rs.Perm (ra++rb)∧RiseR rs)) :
  Calls Tryz.prog 28 #[.agg #[.int .i64 sz,.slice A1 ca.length c1,.slice A2 ra.length c2],.agg #[.int .i64 sz2,.slice B1 cb.length d1,.slice B2 rb.length d2]] w fun e w'=>∃ cs rs v1 v2,e = .returned (.tuple #[.agg #[.int .i64 (mergeE sz ca ra sz2 cb rb cs rs).1,v1,v2],.int .i64 (mergeE sz ca ra sz2 cb rb cs rs).2.2.2])∧(cs.Perm (ca++cb)∧RiseC cs)∧(rs.Perm (ra++rb)∧RiseR rs)∧Kd.R k50 50 w' w.heap.size (fun _=>True) v1 (mergeE sz ca ra sz2 cb rb cs rs).2.1∧Kd.R k45 45 w' w.heap.size (fun _=>True) v2 (mergeE sz ca ra sz2 cb rb cs rs).2.2.1∧Below w.heap.size w w':=by
 have hu:=Tryz.underlying25
 have HR1:=aK (And.intro hr1 hc1)
 have HR2:=aK (And.intro hr2 hc2)
 have HR3:=aK (And.intro hr3 hc3)
 have HR4:=aK (And.intro hr4 hc4)
 have HLS:=aK (And.intro hl1 (And.intro hl2 (And.intro hl3 hl4)))
 obtain ⟨b2,hb2⟩ : ∃ b2,b2=w.heap.size:=⟨_,rfl⟩
 obtain ⟨b3,hb3⟩ : ∃ b3,b3=w.heap.size+1:=⟨_,rfl⟩
 obtain ⟨b4,hb4⟩ : ∃ b4,b4=w.heap.size+1+1:=⟨_,rfl⟩
 have HLE:Aside0 (w.heap.size≤b4):=⟨by omega⟩
 have I0:MgB w (((w.alloc (.cells #[.int .i64 sz,.slice A1 ca.length c1,.slice A2 ra.length c2] 25)).alloc (.cells #[.int .i64 sz2,.slice B1 cb.length d1,.slice B2 rb.length d2] 25)).alloc (.cells #[.int .i64 0,.slice none 0 0,.slice none 0 0] 25)) b2 b3 b4 sz sz2 (.slice A1 ca.length c1) (.slice A2 ra.length c2) (.slice B1 cb.length d1) (.slice B2 rb.length d2):=by
  subst hb2
  refine ⟨blk_alloc (blk_alloc (blk_new w _) _) _,?_,?_,below_alloc (below_alloc (below_alloc (Below.refl w.heap.size w) _) _) _⟩
  ·have h1:=blk_alloc (blk_new (w.alloc (.cells #[.int .i64 sz,.slice A1 ca.length c1,.slice A2 ra.length c2] 25)) (.cells #[.int .i64 sz2,.slice B1 cb.length d1,.slice B2 rb.length d2] 25)) (.cells #[.int .i64 0,.slice none 0 0,.slice none 0 0] 25)
   simp only [World.size_alloc] at h1
   rw [← hb3] at h1
   exact h1
  ·have h1:=blk_new ((w.alloc (.cells #[.int .i64 sz,.slice A1 ca.length c1,.slice A2 ra.length c2] 25)).alloc (.cells #[.int .i64 sz2,.slice B1 cb.length d1,.slice B2 rb.length d2] 25)) (.cells #[.int .i64 0,.slice none 0 0,.slice none 0 0] 25)
   simp only [World.size_alloc] at h1
   rw [← hb4] at h1
   exact h1
 have I0:=aK I0
 obtain ⟨xc,hxc⟩ : ∃ l,l=ca++cb:=⟨_,rfl⟩
 obtain ⟨xr,hxr⟩ : ∃ l,l=ra++rb:=⟨_,rfl⟩
 rw [← hxc,← hxr]
 rw [← hxc,← hxr] at hex
 have HEX:=aK hex
 have HXE:=aK (And.intro hxc hxr)
 have HE0:Aside0 (∀ cs rs,mergeE sz ca ra sz2 cb rb cs rs=if validM sz ca ra && validM sz2 cb rb then (if sz == sz2 then (if chainB (fun x y=>!(cmpC x y == 0)) cs && chainB (fun x y=>!(cmpR x y == 0)) rs then (if validM sz cs rs then (sz,cs,rs,0) else (0,[],[],3)) else (0,[],[],14)) else (0,[],[],5)) else (0,[],[],2)):=⟨fun _ _=>rfl⟩
 have HBE:=aK (And.intro hb2 (And.intro hb3 hb4))
 clear hr1 hr2 hr3 hr4 hc1 hc2 hc3 hc4 hl1 hl2 hl3 hl4 hxc hxr hex hb2 hb3 hb4
 go_enter Tryz.func28,Tryz.ntmps28
 go_upto_block 0 with (fail)
 rw [← HBE.out.2.2,← HBE.out.2.1,← HBE.out.1]
 generalize ((w.alloc (.cells #[.int .i64 sz,.slice A1 ca.length c1,.slice A2 ra.length c2] 25)).alloc (.cells #[.int .i64 sz2,.slice B1 cb.length d1,.slice B2 rb.length d2] 25)).alloc (.cells #[.int .i64 0,.slice none 0 0,.slice none 0 0] 25)=V at *
 have p0:=(blk_cell I0.out.ma 0).trans rfl
 have p1:=(blk_cell I0.out.ma 1).trans rfl
 have p2:=(blk_cell I0.out.ma 2).trans rfl
 have hc:=valid_calls sz A1 c1 ca A2 c2 ra V (Kd.C_below HR1.out.1 I0.out.below) (Kd.C_below HR2.out.1 I0.out.below) (by have:=HLS.out;omega) (by have:=HLS.out;omega)
 cases hv:validM sz ca ra with
 | false =>
  rw [hv] at hc HE0
  clear hv
  go_wp2_with fail
  refine hc.mono ?_
  clear hc p0 p1 p2
  rintro e W1 ⟨rfl,hb1⟩
  have I1:=aK (I0.out.ofBelow hb1)
  clear hb1 I0
  have HO:Aside0 (∀ cs rs,mergeE sz ca ra sz2 cb rb cs rs=(0,[],[],2)):=⟨by intro cs rs;rw [HE0.out];rfl⟩
  have q0:=blk_frozen I1.out.res 0
  have q1:=blk_frozen I1.out.res 1
  have q2:=blk_frozen I1.out.res 2
  have q3:=(blk_cell I1.out.res 0).trans rfl
  have q4:=(blk_cell I1.out.res 1).trans rfl
  have q5:=(blk_cell I1.out.res 2).trans rfl
  have X3:=aK (blk_put (blk_put (blk_put I1.out.res 0 (.int .i64 0) rfl) 1 (.slice none 0 0) rfl) 2 (.slice none 0 0) rfl)
  go_wp2
  refine bodyPost_ret (results_ct rfl _ _ b4 25 #[.int .i64 0,.slice none 0 0,.slice none 0 0] (0,0) _ rfl X3.out Tryz.underlying25 rfl (by kernel_rfl)) rfl ?_
  obtain ⟨cs,rs,hpc,hpr⟩:=HEX.out
  refine ⟨cs,rs,.slice none 0 0,.slice none 0 0,?_,hpc,hpr,?_,?_,below_set (below_set (below_set I1.out.below HLE.out) HLE.out) HLE.out⟩
  ·rw [HO.out];rfl
  ·rw [HO.out];exact Kd.R_nil _ _ _ _ _
  ·rw [HO.out];exact Kd.R_nil _ _ _ _ _
 | true =>
 rw [hv] at hc HE0
 have HVA:=aK (validM_len hv)
 clear hv
 go_wp2_with fail
 refine hc.mono ?_
 clear hc p0 p1 p2
 rintro e W1 ⟨rfl,hb1⟩
 have I1:=aK (I0.out.ofBelow hb1)
 clear hb1 I0
 have p0:=(blk_cell I1.out.mb 0).trans rfl
 have p1:=(blk_cell I1.out.mb 1).trans rfl
 have p2:=(blk_cell I1.out.mb 2).trans rfl
 have hc:=valid_calls sz2 B1 d1 cb B2 d2 rb W1 (Kd.C_below HR3.out.1 I1.out.below) (Kd.C_below HR4.out.1 I1.out.below) (by have:=HLS.out;omega) (by have:=HLS.out;omega)
 cases hv:validM sz2 cb rb with
 | false =>
  rw [hv] at hc HE0
  clear hv
  go_wp2_with fail
  refine hc.mono ?_
  clear hc p0 p1 p2
  rintro e W2 ⟨rfl,hb2⟩
  have I2:=aK (I1.out.ofBelow hb2)
  clear hb2 I1
  have HO:Aside0 (∀ cs rs,mergeE sz ca ra sz2 cb rb cs rs=(0,[],[],2)):=⟨by intro cs rs;rw [HE0.out];rfl⟩
  have q0:=blk_frozen I2.out.res 0
  have q1:=blk_frozen I2.out.res 1
  have q2:=blk_frozen I2.out.res 2
  have q3:=(blk_cell I2.out.res 0).trans rfl
  have q4:=(blk_cell I2.out.res 1).trans rfl
  have q5:=(blk_cell I2.out.res 2).trans rfl
  have X3:=aK (blk_put (blk_put (blk_put I2.out.res 0 (.int .i64 0) rfl) 1 (.slice none 0 0) rfl) 2 (.slice none 0 0) rfl)
  go_wp2
  refine bodyPost_ret (results_ct rfl _ _ b4 25 #[.int .i64 0,.slice none 0 0,.slice none 0 0] (0,0) _ rfl X3.out Tryz.underlying25 rfl (by kernel_rfl)) rfl ?_
  obtain ⟨cs,rs,hpc,hpr⟩:=HEX.out
  refine ⟨cs,rs,.slice none 0 0,.slice none 0 0,?_,hpc,hpr,?_,?_,below_set (below_set (below_set I2.out.below HLE.out) HLE.out) HLE.out⟩
  ·rw [HO.out];rfl
  ·rw [HO.out];exact Kd.R_nil _ _ _ _ _
  ·rw [HO.out];exact Kd.R_nil _ _ _ _ _
 | true =>
 rw [hv] at hc HE0
 have HVB:=aK (validM_len hv)
 have HXC:Aside0 (xc.length≤1000000):=⟨by rw [HXE.out.1,List.length_append];have h1:=HVA.out;have h2:=HVB.out;omega⟩
 have HXR:Aside0 (xr.length≤1000000):=⟨by rw [HXE.out.2,List.length_append];have h1:=HVA.out;have h2:=HVB.out;omega⟩
 clear hv
 go_wp2_with fail
 refine hc.mono ?_
 clear hc p0 p1 p2
 rintro e W2 ⟨rfl,hb2⟩
 have I2:=aK (I1.out.ofBelow hb2)
 clear hb2 I1
 have p0:=(blk_cell I2.out.ma 0).trans rfl
 have p1:=(blk_cell I2.out.mb 0).trans rfl
 by_cases hs:sz=sz2
 case neg =>
  have hsb:(sz != sz2)=true:=by simpa using hs
  have hsf:(sz == sz2)=false:=by simpa using hs
  rw [hsf] at HE0
  clear hs hsf
  have HO:Aside0 (∀ cs rs,mergeE sz ca ra sz2 cb rb cs rs=(0,[],[],5)):=⟨by intro cs rs;rw [HE0.out];rfl⟩
  have q0:=blk_frozen I2.out.res 0
  have q1:=blk_frozen I2.out.res 1
  have q2:=blk_frozen I2.out.res 2
  have q3:=(blk_cell I2.out.res 0).trans rfl
  have q4:=(blk_cell I2.out.res 1).trans rfl
  have q5:=(blk_cell I2.out.res 2).trans rfl
  have X3:=aK (blk_put (blk_put (blk_put I2.out.res 0 (.int .i64 0) rfl) 1 (.slice none 0 0) rfl) 2 (.slice none 0 0) rfl)
  go_wp2
  refine bodyPost_ret (results_ct rfl _ _ b4 25 #[.int .i64 0,.slice none 0 0,.slice none 0 0] (0,0) _ rfl X3.out Tryz.underlying25 rfl (by kernel_rfl)) rfl ?_
  obtain ⟨cs,rs,hpc,hpr⟩:=HEX.out
  refine ⟨cs,rs,.slice none 0 0,.slice none 0 0,?_,hpc,hpr,?_,?_,below_set (below_set (below_set I2.out.below HLE.out) HLE.out) HLE.out⟩
  ·rw [HO.out];rfl
  ·rw [HO.out];exact Kd.R_nil _ _ _ _ _
  ·rw [HO.out];exact Kd.R_nil _ _ _ _ _
 have hsb:(sz != sz2)=false:=by simpa using hs
 have hsf:(sz == sz2)=true:=by simpa using hs
 rw [hsf] at HE0
 clear hs hsf
 go_upto_region 5 with (fail)
 clear p0 p1 hsb
 have IB:=aK (I2.out.ofBelow (below_drew1 (Below.refl W2.heap.size W2)))
 generalize W2=V5 at *
 clear I2
 have HCC:Aside0 (∀ (V:World) (b:Nat),Below w.heap.size w V→V.heap[b]?=some (.cells #[.slice A1 ca.length c1,.slice B1 cb.length d1] 22 (0,0))→Calls Tryz.prog 67 #[.slice (some ⟨b,0,none⟩) 2 2] V fun e w'=>∃ v0_:Value,e = .returned (v0_)∧Kd.R k50 50 w' V.heap.size (fun _=>True) v0_ xc∧Below V.heap.size V w'):=⟨fun V b hV hb=>by
  refine api_CharMetric_67.calls (some ⟨b,0,none⟩) 2 [ca,cb] xc V (lit2_C hb (Kd.C_below HR1.out.1 hV) HR1.out.2 (Kd.C_below HR3.out.1 hV) HR3.out.2) (Nat.le_refl 2) ?_
  unfold api_CharMetric_67.f
  have hfl:[ca,cb].flatten=xc:=by rw [HXE.out.1];simp
  rw [hfl,if_pos ⟨show 2<4398046511104 by decide,by have:=HXC.out;omega⟩]⟩
 have HCR:Aside0 (∀ (V:World) (b:Nat),Below w.heap.size w V→V.heap[b]?=some (.cells #[.slice A2 ra.length c2,.slice B2 rb.length d2] 23 (0,0))→Calls Tryz.prog 68 #[.slice (some ⟨b,0,none⟩) 2 2] V fun e w'=>∃ v0_:Value,e = .returned (v0_)∧Kd.R k45 45 w' V.heap.size (fun _=>True) v0_ xr∧Below V.heap.size V w'):=⟨fun V b hV hb=>by
  refine api_LigRule_68.calls (some ⟨b,0,none⟩) 2 [ra,rb] xr V (lit2_C hb (Kd.C_below HR2.out.1 hV) HR2.out.2 (Kd.C_below HR4.out.1 hV) HR4.out.2) (Nat.le_refl 2) ?_
  unfold api_LigRule_68.f
  have hfl:[ra,rb].flatten=xr:=by rw [HXE.out.2];simp
  rw [hfl,if_pos ⟨show 2<4398046511104 by decide,by have:=HXR.out;omega⟩]⟩
 refine start_ (n:=17) (S:=fun w'=>w'.cell? ⟨b2,0,none⟩=some (.int .i64 sz)∧w'.cell? ⟨b2,1,none⟩=some (.slice A1 ca.length c1)∧w'.cell? ⟨b3,1,none⟩=some (.slice B1 cb.length d1)∧w'.cell? ⟨b2,2,none⟩=some (.slice A2 ra.length c2)∧w'.cell? ⟨b3,2,none⟩=some (.slice B2 rb.length d2)) (ds:=[16]) #[false,false,false,false,false,false,false,false,false,false,false,false,false,false,false,false,false] (by kernel_rfl) rfl rfl ⟨(blk_cell IB.out.ma 0).trans rfl,(blk_cell IB.out.ma 1).trans rfl,(blk_cell IB.out.mb 1).trans rfl,(blk_cell IB.out.ma 2).trans rfl,(blk_cell IB.out.mb 2).trans rfl⟩ (fun hHeld=>?_)
 refine pu 0 (some 24) ?_ rfl rfl (by kernel_rfl) (fun _ _ _ h=>h) (.inl ⟨by rfl,?_⟩) ?_ ?_ ?_;rotate_left;intro w';go_simp;with_reducible rfl;rotate_left;simp only [nS];rfl
 refine pu 2 (some 26) ?_ rfl rfl (by kernel_rfl) (fun _ _ _ h=>h) (.inl ⟨by rfl,?_⟩) ?_ ?_ ?_;rotate_left;intro w';go_simp;with_reducible rfl;rotate_left;simp only [nS];rfl
 refine pu 4 (some 28) ?_ rfl rfl (by kernel_rfl) (fun _ _ _ h=>h) (.inl ⟨by rfl,?_⟩) ?_ ?_ ?_;rotate_left;intro w';go_simp;with_reducible rfl;rotate_left;simp only [nS];rfl
 refine pu 8 (some 32) ?_ rfl rfl (by kernel_rfl) (fun _ _ _ h=>h) (.inl ⟨by rfl,?_⟩) ?_ ?_ ?_;rotate_left;intro w';go_simp;with_reducible rfl;rotate_left;simp only [nS];rfl
 refine pu 10 (some 34) ?_ rfl rfl (by kernel_rfl) (fun _ _ _ h=>h) (.inl ⟨by rfl,?_⟩) ?_ ?_ ?_;rotate_left;intro w';go_simp;with_reducible rfl;rotate_left;simp only [nS];rfl
 refine tk 1 (some 25) ?_ rfl rfl (by kernel_rfl) (fun _ _ _ h=>h) (.inl ⟨by rfl,?_⟩) hHeld ?_ ?_ ?_;rotate_left;rintro w' ⟨s0,s1,s2,s3,s4⟩;go_simp;with_reducible rfl;rotate_left;simp only [nS];rfl
 refine tk 3 (some 27) ?_ rfl rfl (by kernel_rfl) (fun _ _ _ h=>h) (.inl ⟨by rfl,?_⟩) hHeld ?_ ?_ ?_;rotate_left;rintro w' ⟨s0,s1,s2,s3,s4⟩;go_simp;with_reducible rfl;rotate_left;simp only [nS];rfl
 refine tk 5 (some 29) ?_ rfl rfl (by kernel_rfl) (fun _ _ _ h=>h) (.inl ⟨by rfl,?_⟩) hHeld ?_ ?_ ?_;rotate_left;rintro w' ⟨s0,s1,s2,s3,s4⟩;go_simp;with_reducible rfl;rotate_left;simp only [nS];rfl
 refine tk 9 (some 33) ?_ rfl rfl (by kernel_rfl) (fun _ _ _ h=>h) (.inl ⟨by rfl,?_⟩) hHeld ?_ ?_ ?_;rotate_left;rintro w' ⟨s0,s1,s2,s3,s4⟩;go_simp;with_reducible rfl;rotate_left;simp only [nS];rfl
 refine tk 11 (some 35) ?_ rfl rfl (by kernel_rfl) (fun _ _ _ h=>h) (.inl ⟨by rfl,?_⟩) hHeld ?_ ?_ ?_;rotate_left;rintro w' ⟨s0,s1,s2,s3,s4⟩;go_simp;with_reducible rfl;rotate_left;simp only [nS];rfl
 refine join_ (σ:=MgS) 1 #[true,true,true,true,true,true,true,true,true,true,true,true,true,true,true,true,false] (fun s=>[(30,.slice (some ⟨s.ba,0,none⟩) 2 2),(31,.slice s.A5 xc.length s.c5),(36,.slice (some ⟨s.bb,0,none⟩) 2 2),(37,.slice s.A6 xr.length s.c6),(38,.agg #[.int .i64 sz,.slice s.A3 s.cs.length s.c3,.slice s.A4 s.rs.length s.c4]),(6,.pointer (some ⟨s.bx,0,none⟩))]) (fun s w'=>(MgB w w' b2 b3 b4 sz sz2 (.slice A1 ca.length c1) (.slice A2 ra.length c2) (.slice B1 cb.length d1) (.slice B2 rb.length d2))∧((s.cs.Perm xc∧RiseC s.cs)∧(s.rs.Perm xr∧RiseR s.rs)∧Kd.R k50 50 w' w.heap.size (fun _=>True) (.slice s.A3 s.cs.length s.c3) s.cs∧Kd.R k45 45 w' w.heap.size (fun _=>True) (.slice s.A4 s.rs.length s.c4) s.rs)∧(w'.heap[s.bx]?=some (.cells #[.int .i64 0,.slice none 0 0,.slice none 0 0] 25 (0,0))∧(b4<s.bx∧b2<s.bx∧b3<s.bx))) ?_ ?_
 rotate_left
 ·intro hJ6_7_12_13_14_15
  refine join_ (σ:=MgS) 2 #[true,true,true,true,true,true,true,true,true,true,true,true,true,true,true,false,false] (fun s=>[(30,.slice (some ⟨s.ba,0,none⟩) 2 2),(31,.slice s.A5 xc.length s.c5),(36,.slice (some ⟨s.bb,0,none⟩) 2 2),(37,.slice s.A6 xr.length s.c6),(38,.agg #[.int .i64 sz,.slice s.A3 s.cs.length s.c3,.slice s.A4 s.rs.length s.c4])]) (fun s w'=>(MgB w w' b2 b3 b4 sz sz2 (.slice A1 ca.length c1) (.slice A2 ra.length c2) (.slice B1 cb.length d1) (.slice B2 rb.length d2))∧((s.cs.Perm xc∧RiseC s.cs)∧(s.rs.Perm xr∧RiseR s.rs)∧Kd.R k50 50 w' w.heap.size (fun _=>True) (.slice s.A3 s.cs.length s.c3) s.cs∧Kd.R k45 45 w' w.heap.size (fun _=>True) (.slice s.A4 s.rs.length s.c4) s.rs)) ?_ ?_
  rotate_left
  ·intro hJ6_7_12_13_14
   refine join_ (σ:=MgS) 2 #[true,true,true,true,true,true,true,true,true,true,true,true,true,true,false,true,false] (fun s=>[(30,.slice (some ⟨s.ba,0,none⟩) 2 2),(31,.slice s.A5 xc.length s.c5),(36,.slice (some ⟨s.bb,0,none⟩) 2 2),(37,.slice s.A6 xr.length s.c6),(6,.pointer (some ⟨s.bx,0,none⟩))]) (fun s w'=>(MgB w w' b2 b3 b4 sz sz2 (.slice A1 ca.length c1) (.slice A2 ra.length c2) (.slice B1 cb.length d1) (.slice B2 rb.length d2))∧(Kd.R k50 50 w' w.heap.size (fun _=>True) (.slice s.A5 xc.length s.c5) xc)∧(Kd.R k45 45 w' w.heap.size (fun _=>True) (.slice s.A6 xr.length s.c6) xr)∧(w'.heap[s.bx]?=some (.cells #[.int .i64 0,.slice none 0 0,.slice none 0 0] 25 (0,0))∧(b4<s.bx∧b2<s.bx∧b3<s.bx))) ?_ ?_
   rotate_left
   ·intro hJ6_7_12_13_15
    refine join_ (σ:=MgS) 3 #[true,true,true,true,true,true,true,true,true,true,true,true,true,true,false,false,false] (fun s=>[(30,.slice (some ⟨s.ba,0,none⟩) 2 2),(31,.slice s.A5 xc.length s.c5),(36,.slice (some ⟨s.bb,0,none⟩) 2 2),(37,.slice s.A6 xr.length s.c6)]) (fun s w'=>(MgB w w' b2 b3 b4 sz sz2 (.slice A1 ca.length c1) (.slice A2 ra.length c2) (.slice B1 cb.length d1) (.slice B2 rb.length d2))∧(Kd.R k50 50 w' w.heap.size (fun _=>True) (.slice s.A5 xc.length s.c5) xc)∧(Kd.R k45 45 w' w.heap.size (fun _=>True) (.slice s.A6 xr.length s.c6) xr)) ?_ ?_
    rotate_left
    ·intro hJ6_7_12_13
     refine join_ (σ:=MgS) 3 #[true,true,true,true,true,true,true,true,true,true,true,true,true,false,false,true,false] (fun s=>[(30,.slice (some ⟨s.ba,0,none⟩) 2 2),(31,.slice s.A5 xc.length s.c5),(36,.slice (some ⟨s.bb,0,none⟩) 2 2),(6,.pointer (some ⟨s.bx,0,none⟩))]) (fun s w'=>(MgB w w' b2 b3 b4 sz sz2 (.slice A1 ca.length c1) (.slice A2 ra.length c2) (.slice B1 cb.length d1) (.slice B2 rb.length d2))∧(Kd.R k50 50 w' w.heap.size (fun _=>True) (.slice s.A5 xc.length s.c5) xc)∧(w'.heap[s.bb]?=some (.cells #[.slice A2 ra.length c2,.slice B2 rb.length d2] 23 (0,0)))∧(w'.heap[s.bx]?=some (.cells #[.int .i64 0,.slice none 0 0,.slice none 0 0] 25 (0,0))∧(b4<s.bx∧b2<s.bx∧b3<s.bx))) ?_ ?_
     rotate_left
     ·intro hJ6_7_12_15
      refine join_ (σ:=MgS) 4 #[true,true,true,true,true,true,true,true,true,true,true,true,true,false,false,false,false] (fun s=>[(30,.slice (some ⟨s.ba,0,none⟩) 2 2),(31,.slice s.A5 xc.length s.c5),(36,.slice (some ⟨s.bb,0,none⟩) 2 2)]) (fun s w'=>(MgB w w' b2 b3 b4 sz sz2 (.slice A1 ca.length c1) (.slice A2 ra.length c2) (.slice B1 cb.length d1) (.slice B2 rb.length d2))∧(Kd.R k50 50 w' w.heap.size (fun _=>True) (.slice s.A5 xc.length s.c5) xc)∧(w'.heap[s.bb]?=some (.cells #[.slice A2 ra.length c2,.slice B2 rb.length d2] 23 (0,0)))) ?_ ?_
      rotate_left
      ·intro hJ6_7_12
       refine join_ (σ:=MgS) 4 #[true,true,true,true,true,true,true,true,true,true,true,true,false,false,false,true,false] (fun s=>[(30,.slice (some ⟨s.ba,0,none⟩) 2 2),(31,.slice s.A5 xc.length s.c5),(6,.pointer (some ⟨s.bx,0,none⟩))]) (fun s w'=>(MgB w w' b2 b3 b4 sz sz2 (.slice A1 ca.length c1) (.slice A2 ra.length c2) (.slice B1 cb.length d1) (.slice B2 rb.length d2))∧(Kd.R k50 50 w' w.heap.size (fun _=>True) (.slice s.A5 xc.length s.c5) xc)∧(w'.heap[s.bx]?=some (.cells #[.int .i64 0,.slice none 0 0,.slice none 0 0] 25 (0,0))∧(b4<s.bx∧b2<s.bx∧b3<s.bx))) ?_ ?_
       rotate_left
       ·intro hJ6_7_15
        refine join_ (σ:=MgS) 4 #[true,true,true,true,true,true,true,false,true,true,true,true,true,false,false,true,false] (fun s=>[(30,.slice (some ⟨s.ba,0,none⟩) 2 2),(36,.slice (some ⟨s.bb,0,none⟩) 2 2),(6,.pointer (some ⟨s.bx,0,none⟩))]) (fun s w'=>(MgB w w' b2 b3 b4 sz sz2 (.slice A1 ca.length c1) (.slice A2 ra.length c2) (.slice B1 cb.length d1) (.slice B2 rb.length d2))∧(w'.heap[s.ba]?=some (.cells #[.slice A1 ca.length c1,.slice B1 cb.length d1] 22 (0,0)))∧(w'.heap[s.bb]?=some (.cells #[.slice A2 ra.length c2,.slice B2 rb.length d2] 23 (0,0)))∧(w'.heap[s.bx]?=some (.cells #[.int .i64 0,.slice none 0 0,.slice none 0 0] 25 (0,0))∧(b4<s.bx∧b2<s.bx∧b3<s.bx))) ?_ ?_
        rotate_left
        ·intro hJ6_12_15
         refine join_ (σ:=MgS) 5 #[true,true,true,true,true,true,true,true,true,true,true,true,false,false,false,false,false] (fun s=>[(30,.slice (some ⟨s.ba,0,none⟩) 2 2),(31,.slice s.A5 xc.length s.c5)]) (fun s w'=>(MgB w w' b2 b3 b4 sz sz2 (.slice A1 ca.length c1) (.slice A2 ra.length c2) (.slice B1 cb.length d1) (.slice B2 rb.length d2))∧(Kd.R k50 50 w' w.heap.size (fun _=>True) (.slice s.A5 xc.length s.c5) xc)) ?_ ?_
         rotate_left
         ·intro hJ6_7
          refine join_ (σ:=MgS) 5 #[true,true,true,true,true,true,true,false,true,true,true,true,true,false,false,false,false] (fun s=>[(30,.slice (some ⟨s.ba,0,none⟩) 2 2),(36,.slice (some ⟨s.bb,0,none⟩) 2 2)]) (fun s w'=>(MgB w w' b2 b3 b4 sz sz2 (.slice A1 ca.length c1) (.slice A2 ra.length c2) (.slice B1 cb.length d1) (.slice B2 rb.length d2))∧(w'.heap[s.ba]?=some (.cells #[.slice A1 ca.length c1,.slice B1 cb.length d1] 22 (0,0)))∧(w'.heap[s.bb]?=some (.cells #[.slice A2 ra.length c2,.slice B2 rb.length d2] 23 (0,0)))) ?_ ?_
          rotate_left
          ·intro hJ6_12
           refine join_ (σ:=MgS) 5 #[true,true,true,true,true,true,true,false,true,true,true,true,false,false,false,true,false] (fun s=>[(30,.slice (some ⟨s.ba,0,none⟩) 2 2),(6,.pointer (some ⟨s.bx,0,none⟩))]) (fun s w'=>(MgB w w' b2 b3 b4 sz sz2 (.slice A1 ca.length c1) (.slice A2 ra.length c2) (.slice B1 cb.length d1) (.slice B2 rb.length d2))∧(w'.heap[s.ba]?=some (.cells #[.slice A1 ca.length c1,.slice B1 cb.length d1] 22 (0,0)))∧(w'.heap[s.bx]?=some (.cells #[.int .i64 0,.slice none 0 0,.slice none 0 0] 25 (0,0))∧(b4<s.bx∧b2<s.bx∧b3<s.bx))) ?_ ?_
           rotate_left
           ·intro hJ6_15
            refine join_ (σ:=MgS) 5 #[true,true,true,true,true,true,false,false,true,true,true,true,true,false,false,true,false] (fun s=>[(36,.slice (some ⟨s.bb,0,none⟩) 2 2),(6,.pointer (some ⟨s.bx,0,none⟩))]) (fun s w'=>(MgB w w' b2 b3 b4 sz sz2 (.slice A1 ca.length c1) (.slice A2 ra.length c2) (.slice B1 cb.length d1) (.slice B2 rb.length d2))∧(w'.heap[s.bb]?=some (.cells #[.slice A2 ra.length c2,.slice B2 rb.length d2] 23 (0,0)))∧(w'.heap[s.bx]?=some (.cells #[.int .i64 0,.slice none 0 0,.slice none 0 0] 25 (0,0))∧(b4<s.bx∧b2<s.bx∧b3<s.bx))) ?_ ?_
            rotate_left
            ·intro hJ12_15
             refine join_ (σ:=MgS) 6 #[true,true,true,true,true,true,true,false,true,true,true,true,false,false,false,false,false] (fun s=>[(30,.slice (some ⟨s.ba,0,none⟩) 2 2)]) (fun s w'=>(MgB w w' b2 b3 b4 sz sz2 (.slice A1 ca.length c1) (.slice A2 ra.length c2) (.slice B1 cb.length d1) (.slice B2 rb.length d2))∧(w'.heap[s.ba]?=some (.cells #[.slice A1 ca.length c1,.slice B1 cb.length d1] 22 (0,0)))) ?_ ?_
             rotate_left
             ·intro hJ6
              refine join_ (σ:=MgS) 6 #[true,true,true,true,true,true,false,false,true,true,true,true,true,false,false,false,false] (fun s=>[(36,.slice (some ⟨s.bb,0,none⟩) 2 2)]) (fun s w'=>(MgB w w' b2 b3 b4 sz sz2 (.slice A1 ca.length c1) (.slice A2 ra.length c2) (.slice B1 cb.length d1) (.slice B2 rb.length d2))∧(w'.heap[s.bb]?=some (.cells #[.slice A2 ra.length c2,.slice B2 rb.length d2] 23 (0,0)))) ?_ ?_
              rotate_left
              ·intro hJ12
               refine join_ (σ:=MgS) 6 #[true,true,true,true,true,true,false,false,true,true,true,true,false,false,false,true,false] (fun s=>[(6,.pointer (some ⟨s.bx,0,none⟩))]) (fun s w'=>(MgB w w' b2 b3 b4 sz sz2 (.slice A1 ca.length c1) (.slice A2 ra.length c2) (.slice B1 cb.length d1) (.slice B2 rb.length d2))∧(w'.heap[s.bx]?=some (.cells #[.int .i64 0,.slice none 0 0,.slice none 0 0] 25 (0,0))∧(b4<s.bx∧b2<s.bx∧b3<s.bx))) ?_ ?_
               rotate_left
               ·intro hJ15
                refine three_ (i:=6) (j:=12) (k:=15) (Ni:=some 30) (Nj:=some 36) (Nk:=some 6) #[true,true,true,true,true,true,true,false,true,true,true,true,false,false,false,false,false] #[true,true,true,true,true,true,false,false,true,true,true,true,true,false,false,false,false] #[true,true,true,true,true,true,false,false,true,true,true,true,false,false,false,true,false] rfl rfl rfl rfl rfl rfl (by kernel_rfl) (by decide) (by decide) (by decide) (fun K hK=>?_) (fun K hK=>?_) (fun K hK=>?_)
                ·skip
                 refine value_ (w1:=?_) (v:=?_) (by rfl) rfl ?_ ?_
                 rotate_left 2
                 ·go_simp
                  constructor
                  ·rfl
                  ·rfl
                 have hb:=below_alloc (Below.refl _ V5.drew) (.cells #[.slice A1 ca.length c1,.slice B1 cb.length d1] 22)
                 have IBn:=aK (IB.out.ofBelow hb)
                 have X6n:=aK (blk_new V5.drew (.cells #[.slice A1 ca.length c1,.slice B1 cb.length d1] 22))
                 clear hb
                 refine hK.out _ _ ⟨(blk_cell IBn.out.ma 0).trans rfl,(blk_cell IBn.out.ma 1).trans rfl,(blk_cell IBn.out.mb 1).trans rfl,(blk_cell IBn.out.ma 2).trans rfl,(blk_cell IBn.out.mb 2).trans rfl⟩ (fun hHeld=>?_)
                 clear hK K
                 refine norm_ (a':=?_) ?_ ?_;rotate_left;show Act.put _ (some 30) _=_;simp only [nS];rfl
                 exact norm_ (by first|(simp only [putAll,Act.put,lS];done)|(simp only [putAll,Act.put,lS];rfl)) (hJ6 ⟨V5.heap.size,0,0,none,0,none,0,none,0,none,0,[],[]⟩ _ ⟨IBn.out,X6n.out⟩)
                ·skip
                 refine value_ (w1:=?_) (v:=?_) (by rfl) rfl ?_ ?_
                 rotate_left 2
                 ·go_simp
                  constructor
                  ·rfl
                  ·rfl
                 have hb:=below_alloc (Below.refl _ V5.drew) (.cells #[.slice A2 ra.length c2,.slice B2 rb.length d2] 23)
                 have IBn:=aK (IB.out.ofBelow hb)
                 have X12n:=aK (blk_new V5.drew (.cells #[.slice A2 ra.length c2,.slice B2 rb.length d2] 23))
                 clear hb
                 refine hK.out _ _ ⟨(blk_cell IBn.out.ma 0).trans rfl,(blk_cell IBn.out.ma 1).trans rfl,(blk_cell IBn.out.mb 1).trans rfl,(blk_cell IBn.out.ma 2).trans rfl,(blk_cell IBn.out.mb 2).trans rfl⟩ (fun hHeld=>?_)
                 clear hK K
                 refine norm_ (a':=?_) ?_ ?_;rotate_left;show Act.put _ (some 36) _=_;simp only [nS];rfl
                 exact norm_ (by first|(simp only [putAll,Act.put,lS];done)|(simp only [putAll,Act.put,lS];rfl)) (hJ12 ⟨0,V5.heap.size,0,none,0,none,0,none,0,none,0,[],[]⟩ _ ⟨IBn.out,X12n.out⟩)
                ·skip
                 refine value_ (w1:=?_) (v:=?_) (by rfl) rfl ?_ ?_
                 rotate_left 2
                 ·go_simp
                  constructor
                  ·rfl
                  ·rfl
                 have hb:=below_alloc (Below.refl _ V5.drew) (.cells #[.int .i64 0,.slice none 0 0,.slice none 0 0] 25)
                 have IBn:=aK (IB.out.ofBelow hb)
                 have X15n:=aK (And.intro (blk_new V5.drew (.cells #[.int .i64 0,.slice none 0 0,.slice none 0 0] 25)) (And.intro (blk_lt IB.out.res) (And.intro (blk_lt IB.out.ma) (blk_lt IB.out.mb))))
                 clear hb
                 refine hK.out _ _ ⟨(blk_cell IBn.out.ma 0).trans rfl,(blk_cell IBn.out.ma 1).trans rfl,(blk_cell IBn.out.mb 1).trans rfl,(blk_cell IBn.out.ma 2).trans rfl,(blk_cell IBn.out.mb 2).trans rfl⟩ (fun hHeld=>?_)
                 clear hK K
                 refine norm_ (a':=?_) ?_ ?_;rotate_left;show Act.put _ (some 6) _=_;simp only [nS];rfl
                 exact norm_ (by first|(simp only [putAll,Act.put,lS];done)|(simp only [putAll,Act.put,lS];rfl)) (hJ15 ⟨0,0,V5.heap.size,none,0,none,0,none,0,none,0,[],[]⟩ _ ⟨IBn.out,X15n.out⟩)
               ·skip
                rintro ⟨ba,bb,bx,A5,c5,A6,c6,A3,c3,A4,c4,cs,rs⟩ Wn ⟨hB,h15⟩
                have IB:=aK hB
                have X15:Aside0 (Wn.heap[bx]?=some (.cells #[.int .i64 0,.slice none 0 0,.slice none 0 0] 25 (0,0))∧(b4<bx∧b2<bx∧b3<bx)):=⟨h15⟩
                have hHeld:Wn.cell? ⟨b2,0,none⟩=some (.int .i64 sz)∧Wn.cell? ⟨b2,1,none⟩=some (.slice A1 ca.length c1)∧Wn.cell? ⟨b3,1,none⟩=some (.slice B1 cb.length d1)∧Wn.cell? ⟨b2,2,none⟩=some (.slice A2 ra.length c2)∧Wn.cell? ⟨b3,2,none⟩=some (.slice B2 rb.length d2):=⟨(blk_cell IB.out.ma 0).trans rfl,(blk_cell IB.out.ma 1).trans rfl,(blk_cell IB.out.mb 1).trans rfl,(blk_cell IB.out.ma 2).trans rfl,(blk_cell IB.out.mb 2).trans rfl⟩
                clear hB h15
                refine norm_ (a':=?_) ?_ ?_
                rotate_left
                ·simp only [putAll,Act.put,lS]
                 rfl
                refine two_ (i:=6) (j:=12) (Ni:=some 30) (Nj:=some 36) #[true,true,true,true,true,true,true,false,true,true,true,true,false,false,false,true,false] #[true,true,true,true,true,true,false,false,true,true,true,true,true,false,false,true,false] rfl rfl rfl rfl (by kernel_rfl) (by decide) (by decide) (fun K hK=>?_) (fun K hK=>?_)
                ·skip
                 refine value_ (w1:=?_) (v:=?_) (by rfl) rfl ?_ ?_
                 rotate_left 2
                 ·go_simp
                  constructor
                  ·rfl
                  ·rfl
                 have hb:=below_alloc (Below.refl _ Wn) (.cells #[.slice A1 ca.length c1,.slice B1 cb.length d1] 22)
                 have IBn:=aK (IB.out.ofBelow hb)
                 have X15n:=aK (And.intro (blk_below X15.out.1 hb) X15.out.2)
                 have X6n:=aK (blk_new Wn (.cells #[.slice A1 ca.length c1,.slice B1 cb.length d1] 22))
                 clear hb
                 refine hK.out _ _ ⟨(blk_cell IBn.out.ma 0).trans rfl,(blk_cell IBn.out.ma 1).trans rfl,(blk_cell IBn.out.mb 1).trans rfl,(blk_cell IBn.out.ma 2).trans rfl,(blk_cell IBn.out.mb 2).trans rfl⟩ (fun hHeld=>?_)
                 clear hK K
                 refine norm_ (a':=?_) ?_ ?_;rotate_left;show Act.put _ (some 30) _=_;simp only [nS];rfl
                 exact norm_ (by first|(simp only [putAll,Act.put,lS];done)|(simp only [putAll,Act.put,lS];rfl)) (hJ6_15 ⟨Wn.heap.size,bb,bx,A5,c5,A6,c6,A3,c3,A4,c4,cs,rs⟩ _ ⟨IBn.out,X6n.out,X15n.out⟩)
                ·skip
                 refine value_ (w1:=?_) (v:=?_) (by rfl) rfl ?_ ?_
                 rotate_left 2
                 ·go_simp
                  constructor
                  ·rfl
                  ·rfl
                 have hb:=below_alloc (Below.refl _ Wn) (.cells #[.slice A2 ra.length c2,.slice B2 rb.length d2] 23)
                 have IBn:=aK (IB.out.ofBelow hb)
                 have X15n:=aK (And.intro (blk_below X15.out.1 hb) X15.out.2)
                 have X12n:=aK (blk_new Wn (.cells #[.slice A2 ra.length c2,.slice B2 rb.length d2] 23))
                 clear hb
                 refine hK.out _ _ ⟨(blk_cell IBn.out.ma 0).trans rfl,(blk_cell IBn.out.ma 1).trans rfl,(blk_cell IBn.out.mb 1).trans rfl,(blk_cell IBn.out.ma 2).trans rfl,(blk_cell IBn.out.mb 2).trans rfl⟩ (fun hHeld=>?_)
                 clear hK K
                 refine norm_ (a':=?_) ?_ ?_;rotate_left;show Act.put _ (some 36) _=_;simp only [nS];rfl
                 exact norm_ (by first|(simp only [putAll,Act.put,lS];done)|(simp only [putAll,Act.put,lS];rfl)) (hJ12_15 ⟨ba,Wn.heap.size,bx,A5,c5,A6,c6,A3,c3,A4,c4,cs,rs⟩ _ ⟨IBn.out,X12n.out,X15n.out⟩)
              ·skip
               rintro ⟨ba,bb,bx,A5,c5,A6,c6,A3,c3,A4,c4,cs,rs⟩ Wn ⟨hB,h12⟩
               have IB:=aK hB
               have X12:Aside0 (Wn.heap[bb]?=some (.cells #[.slice A2 ra.length c2,.slice B2 rb.length d2] 23 (0,0))):=⟨h12⟩
               have hHeld:Wn.cell? ⟨b2,0,none⟩=some (.int .i64 sz)∧Wn.cell? ⟨b2,1,none⟩=some (.slice A1 ca.length c1)∧Wn.cell? ⟨b3,1,none⟩=some (.slice B1 cb.length d1)∧Wn.cell? ⟨b2,2,none⟩=some (.slice A2 ra.length c2)∧Wn.cell? ⟨b3,2,none⟩=some (.slice B2 rb.length d2):=⟨(blk_cell IB.out.ma 0).trans rfl,(blk_cell IB.out.ma 1).trans rfl,(blk_cell IB.out.mb 1).trans rfl,(blk_cell IB.out.ma 2).trans rfl,(blk_cell IB.out.mb 2).trans rfl⟩
               clear hB h12
               refine norm_ (a':=?_) ?_ ?_
               rotate_left
               ·simp only [putAll,Act.put,lS]
                rfl
               refine two_ (i:=6) (j:=15) (Ni:=some 30) (Nj:=some 6) #[true,true,true,true,true,true,true,false,true,true,true,true,true,false,false,false,false] #[true,true,true,true,true,true,false,false,true,true,true,true,true,false,false,true,false] rfl rfl rfl rfl (by kernel_rfl) (by decide) (by decide) (fun K hK=>?_) (fun K hK=>?_)
               ·skip
                refine value_ (w1:=?_) (v:=?_) (by rfl) rfl ?_ ?_
                rotate_left 2
                ·go_simp
                 constructor
                 ·rfl
                 ·rfl
                have hb:=below_alloc (Below.refl _ Wn) (.cells #[.slice A1 ca.length c1,.slice B1 cb.length d1] 22)
                have IBn:=aK (IB.out.ofBelow hb)
                have X12n:=aK (blk_below X12.out hb)
                have X6n:=aK (blk_new Wn (.cells #[.slice A1 ca.length c1,.slice B1 cb.length d1] 22))
                clear hb
                refine hK.out _ _ ⟨(blk_cell IBn.out.ma 0).trans rfl,(blk_cell IBn.out.ma 1).trans rfl,(blk_cell IBn.out.mb 1).trans rfl,(blk_cell IBn.out.ma 2).trans rfl,(blk_cell IBn.out.mb 2).trans rfl⟩ (fun hHeld=>?_)
                clear hK K
                refine norm_ (a':=?_) ?_ ?_;rotate_left;show Act.put _ (some 30) _=_;simp only [nS];rfl
                exact norm_ (by first|(simp only [putAll,Act.put,lS];done)|(simp only [putAll,Act.put,lS];rfl)) (hJ6_12 ⟨Wn.heap.size,bb,bx,A5,c5,A6,c6,A3,c3,A4,c4,cs,rs⟩ _ ⟨IBn.out,X6n.out,X12n.out⟩)
               ·skip
                refine value_ (w1:=?_) (v:=?_) (by rfl) rfl ?_ ?_
                rotate_left 2
                ·go_simp
                 constructor
                 ·rfl
                 ·rfl
                have hb:=below_alloc (Below.refl _ Wn) (.cells #[.int .i64 0,.slice none 0 0,.slice none 0 0] 25)
                have IBn:=aK (IB.out.ofBelow hb)
                have X12n:=aK (blk_below X12.out hb)
                have X15n:=aK (And.intro (blk_new Wn (.cells #[.int .i64 0,.slice none 0 0,.slice none 0 0] 25)) (And.intro (blk_lt IB.out.res) (And.intro (blk_lt IB.out.ma) (blk_lt IB.out.mb))))
                clear hb
                refine hK.out _ _ ⟨(blk_cell IBn.out.ma 0).trans rfl,(blk_cell IBn.out.ma 1).trans rfl,(blk_cell IBn.out.mb 1).trans rfl,(blk_cell IBn.out.ma 2).trans rfl,(blk_cell IBn.out.mb 2).trans rfl⟩ (fun hHeld=>?_)
                clear hK K
                refine norm_ (a':=?_) ?_ ?_;rotate_left;show Act.put _ (some 6) _=_;simp only [nS];rfl
                exact norm_ (by first|(simp only [putAll,Act.put,lS];done)|(simp only [putAll,Act.put,lS];rfl)) (hJ12_15 ⟨ba,bb,Wn.heap.size,A5,c5,A6,c6,A3,c3,A4,c4,cs,rs⟩ _ ⟨IBn.out,X12n.out,X15n.out⟩)
             ·skip
              rintro ⟨ba,bb,bx,A5,c5,A6,c6,A3,c3,A4,c4,cs,rs⟩ Wn ⟨hB,h6⟩
              have IB:=aK hB
              have X6:Aside0 (Wn.heap[ba]?=some (.cells #[.slice A1 ca.length c1,.slice B1 cb.length d1] 22 (0,0))):=⟨h6⟩
              have hHeld:Wn.cell? ⟨b2,0,none⟩=some (.int .i64 sz)∧Wn.cell? ⟨b2,1,none⟩=some (.slice A1 ca.length c1)∧Wn.cell? ⟨b3,1,none⟩=some (.slice B1 cb.length d1)∧Wn.cell? ⟨b2,2,none⟩=some (.slice A2 ra.length c2)∧Wn.cell? ⟨b3,2,none⟩=some (.slice B2 rb.length d2):=⟨(blk_cell IB.out.ma 0).trans rfl,(blk_cell IB.out.ma 1).trans rfl,(blk_cell IB.out.mb 1).trans rfl,(blk_cell IB.out.ma 2).trans rfl,(blk_cell IB.out.mb 2).trans rfl⟩
              clear hB h6
              refine norm_ (a':=?_) ?_ ?_
              rotate_left
              ·simp only [putAll,Act.put,lS]
               rfl
              refine three_ (i:=7) (j:=12) (k:=15) (Ni:=some 31) (Nj:=some 36) (Nk:=some 6) #[true,true,true,true,true,true,true,true,true,true,true,true,false,false,false,false,false] #[true,true,true,true,true,true,true,false,true,true,true,true,true,false,false,false,false] #[true,true,true,true,true,true,true,false,true,true,true,true,false,false,false,true,false] rfl rfl rfl rfl rfl rfl (by kernel_rfl) (by decide) (by decide) (by decide) (fun K hK=>?_) (fun K hK=>?_) (fun K hK=>?_)
              ·skip
               refine goes_ Tryz.func67 (by kernel_rfl) rfl #[.slice (some ⟨ba,0,none⟩) 2 2] (by rfl) rfl rfl (by simp only [List.map_toArray,List.map_cons,List.map_nil];rfl) ?_
               refine (HCC.out _ _ IB.out.below X6.out).mono ?_
               rintro e Wm ⟨vm,rfl,ho,hb⟩
               obtain ⟨A5n,c5n,rfl⟩:=Kd.R_slice ho
               have IBn:=aK (IB.out.ofBelow hb)
               have X6n:=aK (blk_below X6.out hb)
               have X7n:=aK (Kd.R_lower ho IB.out.below.size)
               clear ho hb
               refine ⟨_,rfl,?_⟩
               refine hK.out _ _ ⟨(blk_cell IBn.out.ma 0).trans rfl,(blk_cell IBn.out.ma 1).trans rfl,(blk_cell IBn.out.mb 1).trans rfl,(blk_cell IBn.out.ma 2).trans rfl,(blk_cell IBn.out.mb 2).trans rfl⟩ (fun hHeld=>?_)
               clear hK K
               refine norm_ (a':=?_) ?_ ?_;rotate_left;show Act.put _ (some 31) _=_;simp only [nS];rfl
               exact norm_ (by first|(simp only [putAll,Act.put,lS];done)|(simp only [putAll,Act.put,lS];rfl)) (hJ6_7 ⟨ba,bb,bx,A5n,c5n,A6,c6,A3,c3,A4,c4,cs,rs⟩ _ ⟨IBn.out,X7n.out⟩)
              ·skip
               refine value_ (w1:=?_) (v:=?_) (by rfl) rfl ?_ ?_
               rotate_left 2
               ·go_simp
                constructor
                ·rfl
                ·rfl
               have hb:=below_alloc (Below.refl _ Wn) (.cells #[.slice A2 ra.length c2,.slice B2 rb.length d2] 23)
               have IBn:=aK (IB.out.ofBelow hb)
               have X6n:=aK (blk_below X6.out hb)
               have X12n:=aK (blk_new Wn (.cells #[.slice A2 ra.length c2,.slice B2 rb.length d2] 23))
               clear hb
               refine hK.out _ _ ⟨(blk_cell IBn.out.ma 0).trans rfl,(blk_cell IBn.out.ma 1).trans rfl,(blk_cell IBn.out.mb 1).trans rfl,(blk_cell IBn.out.ma 2).trans rfl,(blk_cell IBn.out.mb 2).trans rfl⟩ (fun hHeld=>?_)
               clear hK K
               refine norm_ (a':=?_) ?_ ?_;rotate_left;show Act.put _ (some 36) _=_;simp only [nS];rfl
               exact norm_ (by first|(simp only [putAll,Act.put,lS];done)|(simp only [putAll,Act.put,lS];rfl)) (hJ6_12 ⟨ba,Wn.heap.size,bx,A5,c5,A6,c6,A3,c3,A4,c4,cs,rs⟩ _ ⟨IBn.out,X6n.out,X12n.out⟩)
              ·skip
               refine value_ (w1:=?_) (v:=?_) (by rfl) rfl ?_ ?_
               rotate_left 2
               ·go_simp
                constructor
                ·rfl
                ·rfl
               have hb:=below_alloc (Below.refl _ Wn) (.cells #[.int .i64 0,.slice none 0 0,.slice none 0 0] 25)
               have IBn:=aK (IB.out.ofBelow hb)
               have X6n:=aK (blk_below X6.out hb)
               have X15n:=aK (And.intro (blk_new Wn (.cells #[.int .i64 0,.slice none 0 0,.slice none 0 0] 25)) (And.intro (blk_lt IB.out.res) (And.intro (blk_lt IB.out.ma) (blk_lt IB.out.mb))))
               clear hb
               refine hK.out _ _ ⟨(blk_cell IBn.out.ma 0).trans rfl,(blk_cell IBn.out.ma 1).trans rfl,(blk_cell IBn.out.mb 1).trans rfl,(blk_cell IBn.out.ma 2).trans rfl,(blk_cell IBn.out.mb 2).trans rfl⟩ (fun hHeld=>?_)
               clear hK K
               refine norm_ (a':=?_) ?_ ?_;rotate_left;show Act.put _ (some 6) _=_;simp only [nS];rfl
               exact norm_ (by first|(simp only [putAll,Act.put,lS];done)|(simp only [putAll,Act.put,lS];rfl)) (hJ6_15 ⟨ba,bb,Wn.heap.size,A5,c5,A6,c6,A3,c3,A4,c4,cs,rs⟩ _ ⟨IBn.out,X6n.out,X15n.out⟩)
            ·skip
             rintro ⟨ba,bb,bx,A5,c5,A6,c6,A3,c3,A4,c4,cs,rs⟩ Wn ⟨hB,h12,h15⟩
             have IB:=aK hB
             have X12:Aside0 (Wn.heap[bb]?=some (.cells #[.slice A2 ra.length c2,.slice B2 rb.length d2] 23 (0,0))):=⟨h12⟩
             have X15:Aside0 (Wn.heap[bx]?=some (.cells #[.int .i64 0,.slice none 0 0,.slice none 0 0] 25 (0,0))∧(b4<bx∧b2<bx∧b3<bx)):=⟨h15⟩
             have hHeld:Wn.cell? ⟨b2,0,none⟩=some (.int .i64 sz)∧Wn.cell? ⟨b2,1,none⟩=some (.slice A1 ca.length c1)∧Wn.cell? ⟨b3,1,none⟩=some (.slice B1 cb.length d1)∧Wn.cell? ⟨b2,2,none⟩=some (.slice A2 ra.length c2)∧Wn.cell? ⟨b3,2,none⟩=some (.slice B2 rb.length d2):=⟨(blk_cell IB.out.ma 0).trans rfl,(blk_cell IB.out.ma 1).trans rfl,(blk_cell IB.out.mb 1).trans rfl,(blk_cell IB.out.ma 2).trans rfl,(blk_cell IB.out.mb 2).trans rfl⟩
             clear hB h12 h15
             refine norm_ (a':=?_) ?_ ?_
             rotate_left
             ·simp only [putAll,Act.put,lS]
              rfl
             refine one_ (i:=6) (N:=some 30) #[true,true,true,true,true,true,true,false,true,true,true,true,true,false,false,true,false] rfl rfl (by kernel_rfl) (by decide) (fun K hK=>?_)
             refine value_ (w1:=?_) (v:=?_) (by rfl) rfl ?_ ?_
             rotate_left 2
             ·go_simp
              constructor
              ·rfl
              ·rfl
             have hb:=below_alloc (Below.refl _ Wn) (.cells #[.slice A1 ca.length c1,.slice B1 cb.length d1] 22)
             have IBn:=aK (IB.out.ofBelow hb)
             have X12n:=aK (blk_below X12.out hb)
             have X15n:=aK (And.intro (blk_below X15.out.1 hb) X15.out.2)
             have X6n:=aK (blk_new Wn (.cells #[.slice A1 ca.length c1,.slice B1 cb.length d1] 22))
             clear hb
             refine hK.out _ _ ⟨(blk_cell IBn.out.ma 0).trans rfl,(blk_cell IBn.out.ma 1).trans rfl,(blk_cell IBn.out.mb 1).trans rfl,(blk_cell IBn.out.ma 2).trans rfl,(blk_cell IBn.out.mb 2).trans rfl⟩ (fun hHeld=>?_)
             clear hK K
             refine norm_ (a':=?_) ?_ ?_;rotate_left;show Act.put _ (some 30) _=_;simp only [nS];rfl
             exact norm_ (by first|(simp only [putAll,Act.put,lS];done)|(simp only [putAll,Act.put,lS];rfl)) (hJ6_12_15 ⟨Wn.heap.size,bb,bx,A5,c5,A6,c6,A3,c3,A4,c4,cs,rs⟩ _ ⟨IBn.out,X6n.out,X12n.out,X15n.out⟩)
           ·skip
            rintro ⟨ba,bb,bx,A5,c5,A6,c6,A3,c3,A4,c4,cs,rs⟩ Wn ⟨hB,h6,h15⟩
            have IB:=aK hB
            have X6:Aside0 (Wn.heap[ba]?=some (.cells #[.slice A1 ca.length c1,.slice B1 cb.length d1] 22 (0,0))):=⟨h6⟩
            have X15:Aside0 (Wn.heap[bx]?=some (.cells #[.int .i64 0,.slice none 0 0,.slice none 0 0] 25 (0,0))∧(b4<bx∧b2<bx∧b3<bx)):=⟨h15⟩
            have hHeld:Wn.cell? ⟨b2,0,none⟩=some (.int .i64 sz)∧Wn.cell? ⟨b2,1,none⟩=some (.slice A1 ca.length c1)∧Wn.cell? ⟨b3,1,none⟩=some (.slice B1 cb.length d1)∧Wn.cell? ⟨b2,2,none⟩=some (.slice A2 ra.length c2)∧Wn.cell? ⟨b3,2,none⟩=some (.slice B2 rb.length d2):=⟨(blk_cell IB.out.ma 0).trans rfl,(blk_cell IB.out.ma 1).trans rfl,(blk_cell IB.out.mb 1).trans rfl,(blk_cell IB.out.ma 2).trans rfl,(blk_cell IB.out.mb 2).trans rfl⟩
            clear hB h6 h15
            refine norm_ (a':=?_) ?_ ?_
            rotate_left
            ·simp only [putAll,Act.put,lS]
             rfl
            refine two_ (i:=7) (j:=12) (Ni:=some 31) (Nj:=some 36) #[true,true,true,true,true,true,true,true,true,true,true,true,false,false,false,true,false] #[true,true,true,true,true,true,true,false,true,true,true,true,true,false,false,true,false] rfl rfl rfl rfl (by kernel_rfl) (by decide) (by decide) (fun K hK=>?_) (fun K hK=>?_)
            ·skip
             refine goes_ Tryz.func67 (by kernel_rfl) rfl #[.slice (some ⟨ba,0,none⟩) 2 2] (by rfl) rfl rfl (by simp only [List.map_toArray,List.map_cons,List.map_nil];rfl) ?_
             refine (HCC.out _ _ IB.out.below X6.out).mono ?_
             rintro e Wm ⟨vm,rfl,ho,hb⟩
             obtain ⟨A5n,c5n,rfl⟩:=Kd.R_slice ho
             have IBn:=aK (IB.out.ofBelow hb)
             have X6n:=aK (blk_below X6.out hb)
             have X15n:=aK (And.intro (blk_below X15.out.1 hb) X15.out.2)
             have X7n:=aK (Kd.R_lower ho IB.out.below.size)
             clear ho hb
             refine ⟨_,rfl,?_⟩
             refine hK.out _ _ ⟨(blk_cell IBn.out.ma 0).trans rfl,(blk_cell IBn.out.ma 1).trans rfl,(blk_cell IBn.out.mb 1).trans rfl,(blk_cell IBn.out.ma 2).trans rfl,(blk_cell IBn.out.mb 2).trans rfl⟩ (fun hHeld=>?_)
             clear hK K
             refine norm_ (a':=?_) ?_ ?_;rotate_left;show Act.put _ (some 31) _=_;simp only [nS];rfl
             exact norm_ (by first|(simp only [putAll,Act.put,lS];done)|(simp only [putAll,Act.put,lS];rfl)) (hJ6_7_15 ⟨ba,bb,bx,A5n,c5n,A6,c6,A3,c3,A4,c4,cs,rs⟩ _ ⟨IBn.out,X7n.out,X15n.out⟩)
            ·skip
             refine value_ (w1:=?_) (v:=?_) (by rfl) rfl ?_ ?_
             rotate_left 2
             ·go_simp
              constructor
              ·rfl
              ·rfl
             have hb:=below_alloc (Below.refl _ Wn) (.cells #[.slice A2 ra.length c2,.slice B2 rb.length d2] 23)
             have IBn:=aK (IB.out.ofBelow hb)
             have X6n:=aK (blk_below X6.out hb)
             have X15n:=aK (And.intro (blk_below X15.out.1 hb) X15.out.2)
             have X12n:=aK (blk_new Wn (.cells #[.slice A2 ra.length c2,.slice B2 rb.length d2] 23))
             clear hb
             refine hK.out _ _ ⟨(blk_cell IBn.out.ma 0).trans rfl,(blk_cell IBn.out.ma 1).trans rfl,(blk_cell IBn.out.mb 1).trans rfl,(blk_cell IBn.out.ma 2).trans rfl,(blk_cell IBn.out.mb 2).trans rfl⟩ (fun hHeld=>?_)
             clear hK K
             refine norm_ (a':=?_) ?_ ?_;rotate_left;show Act.put _ (some 36) _=_;simp only [nS];rfl
             exact norm_ (by first|(simp only [putAll,Act.put,lS];done)|(simp only [putAll,Act.put,lS];rfl)) (hJ6_12_15 ⟨ba,Wn.heap.size,bx,A5,c5,A6,c6,A3,c3,A4,c4,cs,rs⟩ _ ⟨IBn.out,X6n.out,X12n.out,X15n.out⟩)
          ·skip
           rintro ⟨ba,bb,bx,A5,c5,A6,c6,A3,c3,A4,c4,cs,rs⟩ Wn ⟨hB,h6,h12⟩
           have IB:=aK hB
           have X6:Aside0 (Wn.heap[ba]?=some (.cells #[.slice A1 ca.length c1,.slice B1 cb.length d1] 22 (0,0))):=⟨h6⟩
           have X12:Aside0 (Wn.heap[bb]?=some (.cells #[.slice A2 ra.length c2,.slice B2 rb.length d2] 23 (0,0))):=⟨h12⟩
           have hHeld:Wn.cell? ⟨b2,0,none⟩=some (.int .i64 sz)∧Wn.cell? ⟨b2,1,none⟩=some (.slice A1 ca.length c1)∧Wn.cell? ⟨b3,1,none⟩=some (.slice B1 cb.length d1)∧Wn.cell? ⟨b2,2,none⟩=some (.slice A2 ra.length c2)∧Wn.cell? ⟨b3,2,none⟩=some (.slice B2 rb.length d2):=⟨(blk_cell IB.out.ma 0).trans rfl,(blk_cell IB.out.ma 1).trans rfl,(blk_cell IB.out.mb 1).trans rfl,(blk_cell IB.out.ma 2).trans rfl,(blk_cell IB.out.mb 2).trans rfl⟩
           clear hB h6 h12
           refine norm_ (a':=?_) ?_ ?_
           rotate_left
           ·simp only [putAll,Act.put,lS]
            rfl
           refine two_ (i:=7) (j:=15) (Ni:=some 31) (Nj:=some 6) #[true,true,true,true,true,true,true,true,true,true,true,true,true,false,false,false,false] #[true,true,true,true,true,true,true,false,true,true,true,true,true,false,false,true,false] rfl rfl rfl rfl (by kernel_rfl) (by decide) (by decide) (fun K hK=>?_) (fun K hK=>?_)
           ·skip
            refine goes_ Tryz.func67 (by kernel_rfl) rfl #[.slice (some ⟨ba,0,none⟩) 2 2] (by rfl) rfl rfl (by simp only [List.map_toArray,List.map_cons,List.map_nil];rfl) ?_
            refine (HCC.out _ _ IB.out.below X6.out).mono ?_
            rintro e Wm ⟨vm,rfl,ho,hb⟩
            obtain ⟨A5n,c5n,rfl⟩:=Kd.R_slice ho
            have IBn:=aK (IB.out.ofBelow hb)
            have X6n:=aK (blk_below X6.out hb)
            have X12n:=aK (blk_below X12.out hb)
            have X7n:=aK (Kd.R_lower ho IB.out.below.size)
            clear ho hb
            refine ⟨_,rfl,?_⟩
            refine hK.out _ _ ⟨(blk_cell IBn.out.ma 0).trans rfl,(blk_cell IBn.out.ma 1).trans rfl,(blk_cell IBn.out.mb 1).trans rfl,(blk_cell IBn.out.ma 2).trans rfl,(blk_cell IBn.out.mb 2).trans rfl⟩ (fun hHeld=>?_)
            clear hK K
            refine norm_ (a':=?_) ?_ ?_;rotate_left;show Act.put _ (some 31) _=_;simp only [nS];rfl
            exact norm_ (by first|(simp only [putAll,Act.put,lS];done)|(simp only [putAll,Act.put,lS];rfl)) (hJ6_7_12 ⟨ba,bb,bx,A5n,c5n,A6,c6,A3,c3,A4,c4,cs,rs⟩ _ ⟨IBn.out,X7n.out,X12n.out⟩)
           ·skip
            refine value_ (w1:=?_) (v:=?_) (by rfl) rfl ?_ ?_
            rotate_left 2
            ·go_simp
             constructor
             ·rfl
             ·rfl
            have hb:=below_alloc (Below.refl _ Wn) (.cells #[.int .i64 0,.slice none 0 0,.slice none 0 0] 25)
            have IBn:=aK (IB.out.ofBelow hb)
            have X6n:=aK (blk_below X6.out hb)
            have X12n:=aK (blk_below X12.out hb)
            have X15n:=aK (And.intro (blk_new Wn (.cells #[.int .i64 0,.slice none 0 0,.slice none 0 0] 25)) (And.intro (blk_lt IB.out.res) (And.intro (blk_lt IB.out.ma) (blk_lt IB.out.mb))))
            clear hb
            refine hK.out _ _ ⟨(blk_cell IBn.out.ma 0).trans rfl,(blk_cell IBn.out.ma 1).trans rfl,(blk_cell IBn.out.mb 1).trans rfl,(blk_cell IBn.out.ma 2).trans rfl,(blk_cell IBn.out.mb 2).trans rfl⟩ (fun hHeld=>?_)
            clear hK K
            refine norm_ (a':=?_) ?_ ?_;rotate_left;show Act.put _ (some 6) _=_;simp only [nS];rfl
            exact norm_ (by first|(simp only [putAll,Act.put,lS];done)|(simp only [putAll,Act.put,lS];rfl)) (hJ6_12_15 ⟨ba,bb,Wn.heap.size,A5,c5,A6,c6,A3,c3,A4,c4,cs,rs⟩ _ ⟨IBn.out,X6n.out,X12n.out,X15n.out⟩)
         ·skip
          rintro ⟨ba,bb,bx,A5,c5,A6,c6,A3,c3,A4,c4,cs,rs⟩ Wn ⟨hB,h7⟩
          have IB:=aK hB
          have X7:Aside0 (Kd.R k50 50 Wn w.heap.size (fun _=>True) (.slice A5 xc.length c5) xc):=⟨h7⟩
          have hHeld:Wn.cell? ⟨b2,0,none⟩=some (.int .i64 sz)∧Wn.cell? ⟨b2,1,none⟩=some (.slice A1 ca.length c1)∧Wn.cell? ⟨b3,1,none⟩=some (.slice B1 cb.length d1)∧Wn.cell? ⟨b2,2,none⟩=some (.slice A2 ra.length c2)∧Wn.cell? ⟨b3,2,none⟩=some (.slice B2 rb.length d2):=⟨(blk_cell IB.out.ma 0).trans rfl,(blk_cell IB.out.ma 1).trans rfl,(blk_cell IB.out.mb 1).trans rfl,(blk_cell IB.out.ma 2).trans rfl,(blk_cell IB.out.mb 2).trans rfl⟩
          clear hB h7
          refine norm_ (a':=?_) ?_ ?_
          rotate_left
          ·simp only [putAll,Act.put,lS]
           rfl
          refine two_ (i:=12) (j:=15) (Ni:=some 36) (Nj:=some 6) #[true,true,true,true,true,true,true,true,true,true,true,true,true,false,false,false,false] #[true,true,true,true,true,true,true,true,true,true,true,true,false,false,false,true,false] rfl rfl rfl rfl (by kernel_rfl) (by decide) (by decide) (fun K hK=>?_) (fun K hK=>?_)
          ·skip
           refine value_ (w1:=?_) (v:=?_) (by rfl) rfl ?_ ?_
           rotate_left 2
           ·go_simp
            constructor
            ·rfl
            ·rfl
           have hb:=below_alloc (Below.refl _ Wn) (.cells #[.slice A2 ra.length c2,.slice B2 rb.length d2] 23)
           have IBn:=aK (IB.out.ofBelow hb)
           have X7n:=aK (Kd.R_below X7.out hb)
           have X12n:=aK (blk_new Wn (.cells #[.slice A2 ra.length c2,.slice B2 rb.length d2] 23))
           clear hb
           refine hK.out _ _ ⟨(blk_cell IBn.out.ma 0).trans rfl,(blk_cell IBn.out.ma 1).trans rfl,(blk_cell IBn.out.mb 1).trans rfl,(blk_cell IBn.out.ma 2).trans rfl,(blk_cell IBn.out.mb 2).trans rfl⟩ (fun hHeld=>?_)
           clear hK K
           refine norm_ (a':=?_) ?_ ?_;rotate_left;show Act.put _ (some 36) _=_;simp only [nS];rfl
           exact norm_ (by first|(simp only [putAll,Act.put,lS];done)|(simp only [putAll,Act.put,lS];rfl)) (hJ6_7_12 ⟨ba,Wn.heap.size,bx,A5,c5,A6,c6,A3,c3,A4,c4,cs,rs⟩ _ ⟨IBn.out,X7n.out,X12n.out⟩)
          ·skip
           refine value_ (w1:=?_) (v:=?_) (by rfl) rfl ?_ ?_
           rotate_left 2
           ·go_simp
            constructor
            ·rfl
            ·rfl
           have hb:=below_alloc (Below.refl _ Wn) (.cells #[.int .i64 0,.slice none 0 0,.slice none 0 0] 25)
           have IBn:=aK (IB.out.ofBelow hb)
           have X7n:=aK (Kd.R_below X7.out hb)
           have X15n:=aK (And.intro (blk_new Wn (.cells #[.int .i64 0,.slice none 0 0,.slice none 0 0] 25)) (And.intro (blk_lt IB.out.res) (And.intro (blk_lt IB.out.ma) (blk_lt IB.out.mb))))
           clear hb
           refine hK.out _ _ ⟨(blk_cell IBn.out.ma 0).trans rfl,(blk_cell IBn.out.ma 1).trans rfl,(blk_cell IBn.out.mb 1).trans rfl,(blk_cell IBn.out.ma 2).trans rfl,(blk_cell IBn.out.mb 2).trans rfl⟩ (fun hHeld=>?_)
           clear hK K
           refine norm_ (a':=?_) ?_ ?_;rotate_left;show Act.put _ (some 6) _=_;simp only [nS];rfl
           exact norm_ (by first|(simp only [putAll,Act.put,lS];done)|(simp only [putAll,Act.put,lS];rfl)) (hJ6_7_15 ⟨ba,bb,Wn.heap.size,A5,c5,A6,c6,A3,c3,A4,c4,cs,rs⟩ _ ⟨IBn.out,X7n.out,X15n.out⟩)
        ·skip
         rintro ⟨ba,bb,bx,A5,c5,A6,c6,A3,c3,A4,c4,cs,rs⟩ Wn ⟨hB,h6,h12,h15⟩
         have IB:=aK hB
         have X6:Aside0 (Wn.heap[ba]?=some (.cells #[.slice A1 ca.length c1,.slice B1 cb.length d1] 22 (0,0))):=⟨h6⟩
         have X12:Aside0 (Wn.heap[bb]?=some (.cells #[.slice A2 ra.length c2,.slice B2 rb.length d2] 23 (0,0))):=⟨h12⟩
         have X15:Aside0 (Wn.heap[bx]?=some (.cells #[.int .i64 0,.slice none 0 0,.slice none 0 0] 25 (0,0))∧(b4<bx∧b2<bx∧b3<bx)):=⟨h15⟩
         have hHeld:Wn.cell? ⟨b2,0,none⟩=some (.int .i64 sz)∧Wn.cell? ⟨b2,1,none⟩=some (.slice A1 ca.length c1)∧Wn.cell? ⟨b3,1,none⟩=some (.slice B1 cb.length d1)∧Wn.cell? ⟨b2,2,none⟩=some (.slice A2 ra.length c2)∧Wn.cell? ⟨b3,2,none⟩=some (.slice B2 rb.length d2):=⟨(blk_cell IB.out.ma 0).trans rfl,(blk_cell IB.out.ma 1).trans rfl,(blk_cell IB.out.mb 1).trans rfl,(blk_cell IB.out.ma 2).trans rfl,(blk_cell IB.out.mb 2).trans rfl⟩
         clear hB h6 h12 h15
         refine norm_ (a':=?_) ?_ ?_
         rotate_left
         ·simp only [putAll,Act.put,lS]
          rfl
         refine one_ (i:=7) (N:=some 31) #[true,true,true,true,true,true,true,true,true,true,true,true,true,false,false,true,false] rfl rfl (by kernel_rfl) (by decide) (fun K hK=>?_)
         refine goes_ Tryz.func67 (by kernel_rfl) rfl #[.slice (some ⟨ba,0,none⟩) 2 2] (by rfl) rfl rfl (by simp only [List.map_toArray,List.map_cons,List.map_nil];rfl) ?_
         refine (HCC.out _ _ IB.out.below X6.out).mono ?_
         rintro e Wm ⟨vm,rfl,ho,hb⟩
         obtain ⟨A5n,c5n,rfl⟩:=Kd.R_slice ho
         have IBn:=aK (IB.out.ofBelow hb)
         have X6n:=aK (blk_below X6.out hb)
         have X12n:=aK (blk_below X12.out hb)
         have X15n:=aK (And.intro (blk_below X15.out.1 hb) X15.out.2)
         have X7n:=aK (Kd.R_lower ho IB.out.below.size)
         clear ho hb
         refine ⟨_,rfl,?_⟩
         refine hK.out _ _ ⟨(blk_cell IBn.out.ma 0).trans rfl,(blk_cell IBn.out.ma 1).trans rfl,(blk_cell IBn.out.mb 1).trans rfl,(blk_cell IBn.out.ma 2).trans rfl,(blk_cell IBn.out.mb 2).trans rfl⟩ (fun hHeld=>?_)
         clear hK K
         refine norm_ (a':=?_) ?_ ?_;rotate_left;show Act.put _ (some 31) _=_;simp only [nS];rfl
         exact norm_ (by first|(simp only [putAll,Act.put,lS];done)|(simp only [putAll,Act.put,lS];rfl)) (hJ6_7_12_15 ⟨ba,bb,bx,A5n,c5n,A6,c6,A3,c3,A4,c4,cs,rs⟩ _ ⟨IBn.out,X7n.out,X12n.out,X15n.out⟩)
       ·skip
        rintro ⟨ba,bb,bx,A5,c5,A6,c6,A3,c3,A4,c4,cs,rs⟩ Wn ⟨hB,h7,h15⟩
        have IB:=aK hB
        have X7:Aside0 (Kd.R k50 50 Wn w.heap.size (fun _=>True) (.slice A5 xc.length c5) xc):=⟨h7⟩
        have X15:Aside0 (Wn.heap[bx]?=some (.cells #[.int .i64 0,.slice none 0 0,.slice none 0 0] 25 (0,0))∧(b4<bx∧b2<bx∧b3<bx)):=⟨h15⟩
        have hHeld:Wn.cell? ⟨b2,0,none⟩=some (.int .i64 sz)∧Wn.cell? ⟨b2,1,none⟩=some (.slice A1 ca.length c1)∧Wn.cell? ⟨b3,1,none⟩=some (.slice B1 cb.length d1)∧Wn.cell? ⟨b2,2,none⟩=some (.slice A2 ra.length c2)∧Wn.cell? ⟨b3,2,none⟩=some (.slice B2 rb.length d2):=⟨(blk_cell IB.out.ma 0).trans rfl,(blk_cell IB.out.ma 1).trans rfl,(blk_cell IB.out.mb 1).trans rfl,(blk_cell IB.out.ma 2).trans rfl,(blk_cell IB.out.mb 2).trans rfl⟩
        clear hB h7 h15
        refine norm_ (a':=?_) ?_ ?_
        rotate_left
        ·simp only [putAll,Act.put,lS]
         rfl
        refine one_ (i:=12) (N:=some 36) #[true,true,true,true,true,true,true,true,true,true,true,true,true,false,false,true,false] rfl rfl (by kernel_rfl) (by decide) (fun K hK=>?_)
        refine value_ (w1:=?_) (v:=?_) (by rfl) rfl ?_ ?_
        rotate_left 2
        ·go_simp
         constructor
         ·rfl
         ·rfl
        have hb:=below_alloc (Below.refl _ Wn) (.cells #[.slice A2 ra.length c2,.slice B2 rb.length d2] 23)
        have IBn:=aK (IB.out.ofBelow hb)
        have X7n:=aK (Kd.R_below X7.out hb)
        have X15n:=aK (And.intro (blk_below X15.out.1 hb) X15.out.2)
        have X12n:=aK (blk_new Wn (.cells #[.slice A2 ra.length c2,.slice B2 rb.length d2] 23))
        clear hb
        refine hK.out _ _ ⟨(blk_cell IBn.out.ma 0).trans rfl,(blk_cell IBn.out.ma 1).trans rfl,(blk_cell IBn.out.mb 1).trans rfl,(blk_cell IBn.out.ma 2).trans rfl,(blk_cell IBn.out.mb 2).trans rfl⟩ (fun hHeld=>?_)
        clear hK K
        refine norm_ (a':=?_) ?_ ?_;rotate_left;show Act.put _ (some 36) _=_;simp only [nS];rfl
        exact norm_ (by first|(simp only [putAll,Act.put,lS];done)|(simp only [putAll,Act.put,lS];rfl)) (hJ6_7_12_15 ⟨ba,Wn.heap.size,bx,A5,c5,A6,c6,A3,c3,A4,c4,cs,rs⟩ _ ⟨IBn.out,X7n.out,X12n.out,X15n.out⟩)
      ·skip
       rintro ⟨ba,bb,bx,A5,c5,A6,c6,A3,c3,A4,c4,cs,rs⟩ Wn ⟨hB,h7,h12⟩
       have IB:=aK hB
       have X7:Aside0 (Kd.R k50 50 Wn w.heap.size (fun _=>True) (.slice A5 xc.length c5) xc):=⟨h7⟩
       have X12:Aside0 (Wn.heap[bb]?=some (.cells #[.slice A2 ra.length c2,.slice B2 rb.length d2] 23 (0,0))):=⟨h12⟩
       have hHeld:Wn.cell? ⟨b2,0,none⟩=some (.int .i64 sz)∧Wn.cell? ⟨b2,1,none⟩=some (.slice A1 ca.length c1)∧Wn.cell? ⟨b3,1,none⟩=some (.slice B1 cb.length d1)∧Wn.cell? ⟨b2,2,none⟩=some (.slice A2 ra.length c2)∧Wn.cell? ⟨b3,2,none⟩=some (.slice B2 rb.length d2):=⟨(blk_cell IB.out.ma 0).trans rfl,(blk_cell IB.out.ma 1).trans rfl,(blk_cell IB.out.mb 1).trans rfl,(blk_cell IB.out.ma 2).trans rfl,(blk_cell IB.out.mb 2).trans rfl⟩
       clear hB h7 h12
       refine norm_ (a':=?_) ?_ ?_
       rotate_left
       ·simp only [putAll,Act.put,lS]
        rfl
       refine two_ (i:=13) (j:=15) (Ni:=some 37) (Nj:=some 6) #[true,true,true,true,true,true,true,true,true,true,true,true,true,true,false,false,false] #[true,true,true,true,true,true,true,true,true,true,true,true,true,false,false,true,false] rfl rfl rfl rfl (by kernel_rfl) (by decide) (by decide) (fun K hK=>?_) (fun K hK=>?_)
       ·skip
        refine goes_ Tryz.func68 (by kernel_rfl) rfl #[.slice (some ⟨bb,0,none⟩) 2 2] (by rfl) rfl rfl (by simp only [List.map_toArray,List.map_cons,List.map_nil];rfl) ?_
        refine (HCR.out _ _ IB.out.below X12.out).mono ?_
        rintro e Wm ⟨vm,rfl,ho,hb⟩
        obtain ⟨A6n,c6n,rfl⟩:=Kd.R_slice ho
        have IBn:=aK (IB.out.ofBelow hb)
        have X7n:=aK (Kd.R_below X7.out hb)
        have X12n:=aK (blk_below X12.out hb)
        have X13n:=aK (Kd.R_lower ho IB.out.below.size)
        clear ho hb
        refine ⟨_,rfl,?_⟩
        refine hK.out _ _ ⟨(blk_cell IBn.out.ma 0).trans rfl,(blk_cell IBn.out.ma 1).trans rfl,(blk_cell IBn.out.mb 1).trans rfl,(blk_cell IBn.out.ma 2).trans rfl,(blk_cell IBn.out.mb 2).trans rfl⟩ (fun hHeld=>?_)
        clear hK K
        refine norm_ (a':=?_) ?_ ?_;rotate_left;show Act.put _ (some 37) _=_;simp only [nS];rfl
        exact norm_ (by first|(simp only [putAll,Act.put,lS];done)|(simp only [putAll,Act.put,lS];rfl)) (hJ6_7_12_13 ⟨ba,bb,bx,A5,c5,A6n,c6n,A3,c3,A4,c4,cs,rs⟩ _ ⟨IBn.out,X7n.out,X13n.out⟩)
       ·skip
        refine value_ (w1:=?_) (v:=?_) (by rfl) rfl ?_ ?_
        rotate_left 2
        ·go_simp
         constructor
         ·rfl
         ·rfl
        have hb:=below_alloc (Below.refl _ Wn) (.cells #[.int .i64 0,.slice none 0 0,.slice none 0 0] 25)
        have IBn:=aK (IB.out.ofBelow hb)
        have X7n:=aK (Kd.R_below X7.out hb)
        have X12n:=aK (blk_below X12.out hb)
        have X15n:=aK (And.intro (blk_new Wn (.cells #[.int .i64 0,.slice none 0 0,.slice none 0 0] 25)) (And.intro (blk_lt IB.out.res) (And.intro (blk_lt IB.out.ma) (blk_lt IB.out.mb))))
        clear hb
        refine hK.out _ _ ⟨(blk_cell IBn.out.ma 0).trans rfl,(blk_cell IBn.out.ma 1).trans rfl,(blk_cell IBn.out.mb 1).trans rfl,(blk_cell IBn.out.ma 2).trans rfl,(blk_cell IBn.out.mb 2).trans rfl⟩ (fun hHeld=>?_)
        clear hK K
        refine norm_ (a':=?_) ?_ ?_;rotate_left;show Act.put _ (some 6) _=_;simp only [nS];rfl
        exact norm_ (by first|(simp only [putAll,Act.put,lS];done)|(simp only [putAll,Act.put,lS];rfl)) (hJ6_7_12_15 ⟨ba,bb,Wn.heap.size,A5,c5,A6,c6,A3,c3,A4,c4,cs,rs⟩ _ ⟨IBn.out,X7n.out,X12n.out,X15n.out⟩)
     ·skip
      rintro ⟨ba,bb,bx,A5,c5,A6,c6,A3,c3,A4,c4,cs,rs⟩ Wn ⟨hB,h7,h12,h15⟩
      have IB:=aK hB
      have X7:Aside0 (Kd.R k50 50 Wn w.heap.size (fun _=>True) (.slice A5 xc.length c5) xc):=⟨h7⟩
      have X12:Aside0 (Wn.heap[bb]?=some (.cells #[.slice A2 ra.length c2,.slice B2 rb.length d2] 23 (0,0))):=⟨h12⟩
      have X15:Aside0 (Wn.heap[bx]?=some (.cells #[.int .i64 0,.slice none 0 0,.slice none 0 0] 25 (0,0))∧(b4<bx∧b2<bx∧b3<bx)):=⟨h15⟩
      have hHeld:Wn.cell? ⟨b2,0,none⟩=some (.int .i64 sz)∧Wn.cell? ⟨b2,1,none⟩=some (.slice A1 ca.length c1)∧Wn.cell? ⟨b3,1,none⟩=some (.slice B1 cb.length d1)∧Wn.cell? ⟨b2,2,none⟩=some (.slice A2 ra.length c2)∧Wn.cell? ⟨b3,2,none⟩=some (.slice B2 rb.length d2):=⟨(blk_cell IB.out.ma 0).trans rfl,(blk_cell IB.out.ma 1).trans rfl,(blk_cell IB.out.mb 1).trans rfl,(blk_cell IB.out.ma 2).trans rfl,(blk_cell IB.out.mb 2).trans rfl⟩
      clear hB h7 h12 h15
      refine norm_ (a':=?_) ?_ ?_
      rotate_left
      ·simp only [putAll,Act.put,lS]
       rfl
      refine one_ (i:=13) (N:=some 37) #[true,true,true,true,true,true,true,true,true,true,true,true,true,true,false,true,false] rfl rfl (by kernel_rfl) (by decide) (fun K hK=>?_)
      refine goes_ Tryz.func68 (by kernel_rfl) rfl #[.slice (some ⟨bb,0,none⟩) 2 2] (by rfl) rfl rfl (by simp only [List.map_toArray,List.map_cons,List.map_nil];rfl) ?_
      refine (HCR.out _ _ IB.out.below X12.out).mono ?_
      rintro e Wm ⟨vm,rfl,ho,hb⟩
      obtain ⟨A6n,c6n,rfl⟩:=Kd.R_slice ho
      have IBn:=aK (IB.out.ofBelow hb)
      have X7n:=aK (Kd.R_below X7.out hb)
      have X12n:=aK (blk_below X12.out hb)
      have X15n:=aK (And.intro (blk_below X15.out.1 hb) X15.out.2)
      have X13n:=aK (Kd.R_lower ho IB.out.below.size)
      clear ho hb
      refine ⟨_,rfl,?_⟩
      refine hK.out _ _ ⟨(blk_cell IBn.out.ma 0).trans rfl,(blk_cell IBn.out.ma 1).trans rfl,(blk_cell IBn.out.mb 1).trans rfl,(blk_cell IBn.out.ma 2).trans rfl,(blk_cell IBn.out.mb 2).trans rfl⟩ (fun hHeld=>?_)
      clear hK K
      refine norm_ (a':=?_) ?_ ?_;rotate_left;show Act.put _ (some 37) _=_;simp only [nS];rfl
      exact norm_ (by first|(simp only [putAll,Act.put,lS];done)|(simp only [putAll,Act.put,lS];rfl)) (hJ6_7_12_13_15 ⟨ba,bb,bx,A5,c5,A6n,c6n,A3,c3,A4,c4,cs,rs⟩ _ ⟨IBn.out,X7n.out,X13n.out,X15n.out⟩)
    ·skip
     rintro ⟨ba,bb,bx,A5,c5,A6,c6,A3,c3,A4,c4,cs,rs⟩ Wn ⟨hB,h7,h13⟩
     have IB:=aK hB
     have X7:Aside0 (Kd.R k50 50 Wn w.heap.size (fun _=>True) (.slice A5 xc.length c5) xc):=⟨h7⟩
     have X13:Aside0 (Kd.R k45 45 Wn w.heap.size (fun _=>True) (.slice A6 xr.length c6) xr):=⟨h13⟩
     have hHeld:Wn.cell? ⟨b2,0,none⟩=some (.int .i64 sz)∧Wn.cell? ⟨b2,1,none⟩=some (.slice A1 ca.length c1)∧Wn.cell? ⟨b3,1,none⟩=some (.slice B1 cb.length d1)∧Wn.cell? ⟨b2,2,none⟩=some (.slice A2 ra.length c2)∧Wn.cell? ⟨b3,2,none⟩=some (.slice B2 rb.length d2):=⟨(blk_cell IB.out.ma 0).trans rfl,(blk_cell IB.out.ma 1).trans rfl,(blk_cell IB.out.mb 1).trans rfl,(blk_cell IB.out.ma 2).trans rfl,(blk_cell IB.out.mb 2).trans rfl⟩
     clear hB h7 h13
     refine norm_ (a':=?_) ?_ ?_
     rotate_left
     ·simp only [putAll,Act.put,lS]
      rfl
     refine two_ (i:=14) (j:=15) (Ni:=some 38) (Nj:=some 6) #[true,true,true,true,true,true,true,true,true,true,true,true,true,true,true,false,false] #[true,true,true,true,true,true,true,true,true,true,true,true,true,true,false,true,false] rfl rfl rfl rfl (by kernel_rfl) (by decide) (by decide) (fun K hK=>?_) (fun K hK=>?_)
     ·skip
      refine goes_ Tryz.func50 (by kernel_rfl) rfl #[.int .i64 sz,.slice A5 xc.length c5,.slice A6 xr.length c6] (by rfl) rfl rfl (by simp only [List.map_toArray,List.map_cons,List.map_nil];rfl) ?_
      refine (made_calls sz A5 c5 xc A6 c6 xr _ (Kd.R_reads' X7.out).2.2 (Kd.R_reads' X7.out).2.1 (Kd.R_reads' X13.out).2.2 (Kd.R_reads' X13.out).2.1 HXC.out HXR.out).mono ?_
      rintro e Wm ⟨vm1,vm2,csn,rsn,rfl,hpc,hpr,ho1,ho2,hb⟩
      obtain ⟨A3n,c3n,rfl⟩:=Kd.R_slice ho1
      obtain ⟨A4n,c4n,rfl⟩:=Kd.R_slice ho2
      have IBn:=aK (IB.out.ofBelow hb)
      have X7n:=aK (Kd.R_below X7.out hb)
      have X13n:=aK (Kd.R_below X13.out hb)
      have X14n:=aK (And.intro hpc (And.intro hpr (And.intro (Kd.R_lower ho1 IB.out.below.size) (Kd.R_lower ho2 IB.out.below.size))))
      clear hpc hpr ho1 ho2 hb
      refine ⟨_,rfl,?_⟩
      refine hK.out _ _ ⟨(blk_cell IBn.out.ma 0).trans rfl,(blk_cell IBn.out.ma 1).trans rfl,(blk_cell IBn.out.mb 1).trans rfl,(blk_cell IBn.out.ma 2).trans rfl,(blk_cell IBn.out.mb 2).trans rfl⟩ (fun hHeld=>?_)
      clear hK K
      refine norm_ (a':=?_) ?_ ?_;rotate_left;show Act.put _ (some 38) _=_;simp only [nS];rfl
      exact norm_ (by first|(simp only [putAll,Act.put,lS];done)|(simp only [putAll,Act.put,lS];rfl)) (hJ6_7_12_13_14 ⟨ba,bb,bx,A5,c5,A6,c6,A3n,c3n,A4n,c4n,csn,rsn⟩ _ ⟨IBn.out,X14n.out⟩)
     ·skip
      refine value_ (w1:=?_) (v:=?_) (by rfl) rfl ?_ ?_
      rotate_left 2
      ·go_simp
       constructor
       ·rfl
       ·rfl
      have hb:=below_alloc (Below.refl _ Wn) (.cells #[.int .i64 0,.slice none 0 0,.slice none 0 0] 25)
      have IBn:=aK (IB.out.ofBelow hb)
      have X7n:=aK (Kd.R_below X7.out hb)
      have X13n:=aK (Kd.R_below X13.out hb)
      have X15n:=aK (And.intro (blk_new Wn (.cells #[.int .i64 0,.slice none 0 0,.slice none 0 0] 25)) (And.intro (blk_lt IB.out.res) (And.intro (blk_lt IB.out.ma) (blk_lt IB.out.mb))))
      clear hb
      refine hK.out _ _ ⟨(blk_cell IBn.out.ma 0).trans rfl,(blk_cell IBn.out.ma 1).trans rfl,(blk_cell IBn.out.mb 1).trans rfl,(blk_cell IBn.out.ma 2).trans rfl,(blk_cell IBn.out.mb 2).trans rfl⟩ (fun hHeld=>?_)
      clear hK K
      refine norm_ (a':=?_) ?_ ?_;rotate_left;show Act.put _ (some 6) _=_;simp only [nS];rfl
      exact norm_ (by first|(simp only [putAll,Act.put,lS];done)|(simp only [putAll,Act.put,lS];rfl)) (hJ6_7_12_13_15 ⟨ba,bb,Wn.heap.size,A5,c5,A6,c6,A3,c3,A4,c4,cs,rs⟩ _ ⟨IBn.out,X7n.out,X13n.out,X15n.out⟩)
   ·skip
    rintro ⟨ba,bb,bx,A5,c5,A6,c6,A3,c3,A4,c4,cs,rs⟩ Wn ⟨hB,h7,h13,h15⟩
    have IB:=aK hB
    have X7:Aside0 (Kd.R k50 50 Wn w.heap.size (fun _=>True) (.slice A5 xc.length c5) xc):=⟨h7⟩
    have X13:Aside0 (Kd.R k45 45 Wn w.heap.size (fun _=>True) (.slice A6 xr.length c6) xr):=⟨h13⟩
    have X15:Aside0 (Wn.heap[bx]?=some (.cells #[.int .i64 0,.slice none 0 0,.slice none 0 0] 25 (0,0))∧(b4<bx∧b2<bx∧b3<bx)):=⟨h15⟩
    have hHeld:Wn.cell? ⟨b2,0,none⟩=some (.int .i64 sz)∧Wn.cell? ⟨b2,1,none⟩=some (.slice A1 ca.length c1)∧Wn.cell? ⟨b3,1,none⟩=some (.slice B1 cb.length d1)∧Wn.cell? ⟨b2,2,none⟩=some (.slice A2 ra.length c2)∧Wn.cell? ⟨b3,2,none⟩=some (.slice B2 rb.length d2):=⟨(blk_cell IB.out.ma 0).trans rfl,(blk_cell IB.out.ma 1).trans rfl,(blk_cell IB.out.mb 1).trans rfl,(blk_cell IB.out.ma 2).trans rfl,(blk_cell IB.out.mb 2).trans rfl⟩
    clear hB h7 h13 h15
    refine norm_ (a':=?_) ?_ ?_
    rotate_left
    ·simp only [putAll,Act.put,lS]
     rfl
    refine one_ (i:=14) (N:=some 38) #[true,true,true,true,true,true,true,true,true,true,true,true,true,true,true,true,false] rfl rfl (by kernel_rfl) (by decide) (fun K hK=>?_)
    refine goes_ Tryz.func50 (by kernel_rfl) rfl #[.int .i64 sz,.slice A5 xc.length c5,.slice A6 xr.length c6] (by rfl) rfl rfl (by simp only [List.map_toArray,List.map_cons,List.map_nil];rfl) ?_
    refine (made_calls sz A5 c5 xc A6 c6 xr _ (Kd.R_reads' X7.out).2.2 (Kd.R_reads' X7.out).2.1 (Kd.R_reads' X13.out).2.2 (Kd.R_reads' X13.out).2.1 HXC.out HXR.out).mono ?_
    rintro e Wm ⟨vm1,vm2,csn,rsn,rfl,hpc,hpr,ho1,ho2,hb⟩
    obtain ⟨A3n,c3n,rfl⟩:=Kd.R_slice ho1
    obtain ⟨A4n,c4n,rfl⟩:=Kd.R_slice ho2
    have IBn:=aK (IB.out.ofBelow hb)
    have X7n:=aK (Kd.R_below X7.out hb)
    have X13n:=aK (Kd.R_below X13.out hb)
    have X15n:=aK (And.intro (blk_below X15.out.1 hb) X15.out.2)
    have X14n:=aK (And.intro hpc (And.intro hpr (And.intro (Kd.R_lower ho1 IB.out.below.size) (Kd.R_lower ho2 IB.out.below.size))))
    clear hpc hpr ho1 ho2 hb
    refine ⟨_,rfl,?_⟩
    refine hK.out _ _ ⟨(blk_cell IBn.out.ma 0).trans rfl,(blk_cell IBn.out.ma 1).trans rfl,(blk_cell IBn.out.mb 1).trans rfl,(blk_cell IBn.out.ma 2).trans rfl,(blk_cell IBn.out.mb 2).trans rfl⟩ (fun hHeld=>?_)
    clear hK K
    refine norm_ (a':=?_) ?_ ?_;rotate_left;show Act.put _ (some 38) _=_;simp only [nS];rfl
    exact norm_ (by first|(simp only [putAll,Act.put,lS];done)|(simp only [putAll,Act.put,lS];rfl)) (hJ6_7_12_13_14_15 ⟨ba,bb,bx,A5,c5,A6,c6,A3n,c3n,A4n,c4n,csn,rsn⟩ _ ⟨IBn.out,X14n.out,X15n.out⟩)
  ·skip
   rintro ⟨ba,bb,bx,A5,c5,A6,c6,A3,c3,A4,c4,cs,rs⟩ Wn ⟨hB,h14⟩
   have IB:=aK hB
   have X14:Aside0 ((cs.Perm xc∧RiseC cs)∧(rs.Perm xr∧RiseR rs)∧Kd.R k50 50 Wn w.heap.size (fun _=>True) (.slice A3 cs.length c3) cs∧Kd.R k45 45 Wn w.heap.size (fun _=>True) (.slice A4 rs.length c4) rs):=⟨h14⟩
   have hHeld:Wn.cell? ⟨b2,0,none⟩=some (.int .i64 sz)∧Wn.cell? ⟨b2,1,none⟩=some (.slice A1 ca.length c1)∧Wn.cell? ⟨b3,1,none⟩=some (.slice B1 cb.length d1)∧Wn.cell? ⟨b2,2,none⟩=some (.slice A2 ra.length c2)∧Wn.cell? ⟨b3,2,none⟩=some (.slice B2 rb.length d2):=⟨(blk_cell IB.out.ma 0).trans rfl,(blk_cell IB.out.ma 1).trans rfl,(blk_cell IB.out.mb 1).trans rfl,(blk_cell IB.out.ma 2).trans rfl,(blk_cell IB.out.mb 2).trans rfl⟩
   clear hB h14
   refine norm_ (a':=?_) ?_ ?_
   rotate_left
   ·simp only [putAll,Act.put,lS]
    rfl
   refine one_ (i:=15) (N:=some 6) #[true,true,true,true,true,true,true,true,true,true,true,true,true,true,true,true,false] rfl rfl (by kernel_rfl) (by decide) (fun K hK=>?_)
   refine value_ (w1:=?_) (v:=?_) (by rfl) rfl ?_ ?_
   rotate_left 2
   ·go_simp
    constructor
    ·rfl
    ·rfl
   have hb:=below_alloc (Below.refl _ Wn) (.cells #[.int .i64 0,.slice none 0 0,.slice none 0 0] 25)
   have IBn:=aK (IB.out.ofBelow hb)
   have X14n:=aK (And.intro X14.out.1 (And.intro X14.out.2.1 (And.intro (Kd.R_below X14.out.2.2.1 hb) (Kd.R_below X14.out.2.2.2 hb))))
   have X15n:=aK (And.intro (blk_new Wn (.cells #[.int .i64 0,.slice none 0 0,.slice none 0 0] 25)) (And.intro (blk_lt IB.out.res) (And.intro (blk_lt IB.out.ma) (blk_lt IB.out.mb))))
   clear hb
   refine hK.out _ _ ⟨(blk_cell IBn.out.ma 0).trans rfl,(blk_cell IBn.out.ma 1).trans rfl,(blk_cell IBn.out.mb 1).trans rfl,(blk_cell IBn.out.ma 2).trans rfl,(blk_cell IBn.out.mb 2).trans rfl⟩ (fun hHeld=>?_)
   clear hK K
   refine norm_ (a':=?_) ?_ ?_;rotate_left;show Act.put _ (some 6) _=_;simp only [nS];rfl
   exact norm_ (by first|(simp only [putAll,Act.put,lS];done)|(simp only [putAll,Act.put,lS];rfl)) (hJ6_7_12_13_14_15 ⟨ba,bb,Wn.heap.size,A5,c5,A6,c6,A3,c3,A4,c4,cs,rs⟩ _ ⟨IBn.out,X14n.out,X15n.out⟩)
 rintro ⟨ba,bb,bx,A5,c5,A6,c6,A3,c3,A4,c4,cs,rs⟩ Wn ⟨hB,h14,h15⟩
 have IB:=aK hB
 have X14:Aside0 ((cs.Perm xc∧RiseC cs)∧(rs.Perm xr∧RiseR rs)∧Kd.R k50 50 Wn w.heap.size (fun _=>True) (.slice A3 cs.length c3) cs∧Kd.R k45 45 Wn w.heap.size (fun _=>True) (.slice A4 rs.length c4) rs):=⟨h14⟩
 have X15:Aside0 (Wn.heap[bx]?=some (.cells #[.int .i64 0,.slice none 0 0,.slice none 0 0] 25 (0,0))∧(b4<bx∧b2<bx∧b3<bx)):=⟨h15⟩
 have hHeld:Wn.cell? ⟨b2,0,none⟩=some (.int .i64 sz)∧Wn.cell? ⟨b2,1,none⟩=some (.slice A1 ca.length c1)∧Wn.cell? ⟨b3,1,none⟩=some (.slice B1 cb.length d1)∧Wn.cell? ⟨b2,2,none⟩=some (.slice A2 ra.length c2)∧Wn.cell? ⟨b3,2,none⟩=some (.slice B2 rb.length d2):=⟨(blk_cell IB.out.ma 0).trans rfl,(blk_cell IB.out.ma 1).trans rfl,(blk_cell IB.out.mb 1).trans rfl,(blk_cell IB.out.ma 2).trans rfl,(blk_cell IB.out.mb 2).trans rfl⟩
 clear hB h14 h15
 refine norm_ (a':=?_) ?_ ?_
 rotate_left
 ·simp only [putAll,Act.put,lS]
  rfl
 refine last_ (i:=16) (N:=none) #[true,true,true,true,true,true,true,true,true,true,true,true,true,true,true,true,true] rfl rfl (by kernel_rfl) (by decide) (fun K hK=>?_)
 have f0:=blk_frozen X15.out.1 0
 have f1:=blk_frozen X15.out.1 1
 have f2:=blk_frozen X15.out.1 2
 have f4:=(blk_cell X15.out.1 0).trans rfl
 have f5:=(blk_cell X15.out.1 1).trans rfl
 have f6:=(blk_cell X15.out.1 2).trans rfl
 refine skip_ (w1:=?_) (by rfl) rfl ?_ ?_
 rotate_left
 ·go_simp
  rfl
 refine hK.out _ _ ?_
 clear hK K
 refine done_ (by kernel_rfl) ?_
 have HPC:=aK X14.out.1
 have HPR:=aK X14.out.2.1
 have hlc:cs.length=xc.length:=HPC.out.1.length_eq
 have hlr:rs.length=xr.length:=HPR.out.1.length_eq
 have HLC:Aside0 (cs.length≤1000000):=⟨by have:=HXC.out;omega⟩
 have HLR:Aside0 (rs.length≤1000000):=⟨by have:=HXR.out;omega⟩
 have HE1:Aside0 (mergeE sz ca ra sz2 cb rb cs rs=if chainB (fun x y=>!(cmpC x y == 0)) cs && chainB (fun x y=>!(cmpR x y == 0)) rs then (if validM sz cs rs then (sz,cs,rs,0) else (0,[],[],3)) else (0,[],[],14)):=⟨by rw [HE0.out];rfl⟩
 have HW:Aside0 (w.heap.size≤bx):=⟨by have h1:=X15.out.2.1;have h2:=HLE.out;omega⟩
 have I2:Aside0 (MgB w (((Wn.setCell ⟨bx,0,none⟩ (.int .i64 sz)).setCell ⟨bx,1,none⟩ (.slice A3 cs.length c3)).setCell ⟨bx,2,none⟩ (.slice A4 rs.length c4)) b2 b3 b4 sz sz2 (.slice A1 ca.length c1) (.slice A2 ra.length c2) (.slice B1 cb.length d1) (.slice B2 rb.length d2)):=⟨⟨(blk_far (blk_far (blk_far IB.out.ma (Nat.ne_of_lt X15.out.2.2.1) (p:=⟨bx,0,none⟩) (.int .i64 sz)) (Nat.ne_of_lt X15.out.2.2.1) (p:=⟨bx,1,none⟩) (.slice A3 cs.length c3)) (Nat.ne_of_lt X15.out.2.2.1) (p:=⟨bx,2,none⟩) (.slice A4 rs.length c4)),(blk_far (blk_far (blk_far IB.out.mb (Nat.ne_of_lt X15.out.2.2.2) (p:=⟨bx,0,none⟩) (.int .i64 sz)) (Nat.ne_of_lt X15.out.2.2.2) (p:=⟨bx,1,none⟩) (.slice A3 cs.length c3)) (Nat.ne_of_lt X15.out.2.2.2) (p:=⟨bx,2,none⟩) (.slice A4 rs.length c4)),(blk_far (blk_far (blk_far IB.out.res (Nat.ne_of_lt X15.out.2.1) (p:=⟨bx,0,none⟩) (.int .i64 sz)) (Nat.ne_of_lt X15.out.2.1) (p:=⟨bx,1,none⟩) (.slice A3 cs.length c3)) (Nat.ne_of_lt X15.out.2.1) (p:=⟨bx,2,none⟩) (.slice A4 rs.length c4)),below_set (below_set (below_set IB.out.below HW.out) HW.out) HW.out⟩⟩
 have HX2:Aside0 ((((Wn.setCell ⟨bx,0,none⟩ (.int .i64 sz)).setCell ⟨bx,1,none⟩ (.slice A3 cs.length c3)).setCell ⟨bx,2,none⟩ (.slice A4 rs.length c4)).heap[bx]?=some (.cells #[.int .i64 sz,.slice A3 cs.length c3,.slice A4 rs.length c4] 25 (0,0))):=⟨blk_put (blk_put (blk_put X15.out.1 0 _ rfl) 1 _ rfl) 2 _ rfl⟩
 have S1:Aside0 (Kd.R k50 50 (((Wn.setCell ⟨bx,0,none⟩ (.int .i64 sz)).setCell ⟨bx,1,none⟩ (.slice A3 cs.length c3)).setCell ⟨bx,2,none⟩ (.slice A4 rs.length c4)) w.heap.size (fun _=>True) (.slice A3 cs.length c3) cs):=⟨Kd.R_set (Kd.R_set (Kd.R_set X14.out.2.2.1 X15.out.1 (fun q hq=>by rw [opq50 q hq];decide) 0 _) (blk_put X15.out.1 0 _ rfl) (fun q hq=>by rw [opq50 q hq];decide) 1 _) (blk_put (blk_put X15.out.1 0 _ rfl) 1 _ rfl) (fun q hq=>by rw [opq50 q hq];decide) 2 _⟩
 have S2:Aside0 (Kd.R k45 45 (((Wn.setCell ⟨bx,0,none⟩ (.int .i64 sz)).setCell ⟨bx,1,none⟩ (.slice A3 cs.length c3)).setCell ⟨bx,2,none⟩ (.slice A4 rs.length c4)) w.heap.size (fun _=>True) (.slice A4 rs.length c4) rs):=⟨Kd.R_set (Kd.R_set (Kd.R_set X14.out.2.2.2 X15.out.1 (fun q hq=>by rw [opq45 q hq];decide) 0 _) (blk_put X15.out.1 0 _ rfl) (fun q hq=>by rw [opq45 q hq];decide) 1 _) (blk_put (blk_put X15.out.1 0 _ rfl) 1 _ rfl) (fun q hq=>by rw [opq45 q hq];decide) 2 _⟩
 generalize (((Wn.setCell ⟨bx,0,none⟩ (.int .i64 sz)).setCell ⟨bx,1,none⟩ (.slice A3 cs.length c3)).setCell ⟨bx,2,none⟩ (.slice A4 rs.length c4))=W2 at *
 clear f0 f1 f2 f4 f5 f6 IB X14 X15 HCC HCR hlc hlr hHeld
 have HTC:=aK (fun V (h:Below W2.heap.size W2 V)=>twiceMC_calls A3 c3 cs V (Kd.C_below (Kd.R_reads' S1.out).2.2 h) (by have:=HLC.out;omega))
 have HTR:=aK (fun V (h:Below W2.heap.size W2 V)=>twiceMR_calls A4 c4 rs V (Kd.C_below (Kd.R_reads' S2.out).2.2 h) (by have:=HLR.out;omega))
 have HVC:=aK (fun V (h:Below W2.heap.size W2 V)=>valid_calls sz A3 c3 cs A4 c4 rs V (Kd.C_below (Kd.R_reads' S1.out).2.2 h) (Kd.C_below (Kd.R_reads' S2.out).2.2 h) (by have:=HLC.out;omega) (by have:=HLR.out;omega))
 have HK5:=aK (Below.refl W2.heap.size W2)
 obtain ⟨y1,hy1⟩ : ∃ z,z=chainB (fun x y=>!(cmpC x y == 0)) cs:=⟨_,rfl⟩
 obtain ⟨y2,hy2⟩ : ∃ z,z=chainB (fun x y=>!(cmpR x y == 0)) rs:=⟨_,rfl⟩
 obtain ⟨y3,hy3⟩ : ∃ z,z=validM sz cs rs:=⟨_,rfl⟩
 rw [← hy1] at HTC HE1
 rw [← hy2] at HTR HE1
 rw [← hy3] at HVC HE1
 clear hy1 hy2 hy3
 have p1:=(blk_cell HX2.out 1).trans rfl
 cases y1 with
 | false =>
  go_wp2_with fail
  refine (HTC.out _ HK5.out).mono ?_
  rintro e W6 ⟨rfl,hb6⟩
  have I6:=aK (I2.out.ofBelow hb6)
  clear hb6 p1
  have HO:Aside0 (mergeE sz ca ra sz2 cb rb cs rs=(0,[],[],14)):=⟨by rw [HE1.out];rfl⟩
  have q0:=blk_frozen I6.out.res 0
  have q1:=blk_frozen I6.out.res 1
  have q2:=blk_frozen I6.out.res 2
  have q3:=(blk_cell I6.out.res 0).trans rfl
  have q4:=(blk_cell I6.out.res 1).trans rfl
  have q5:=(blk_cell I6.out.res 2).trans rfl
  have X3:=aK (blk_put (blk_put (blk_put I6.out.res 0 (.int .i64 0) rfl) 1 (.slice none 0 0) rfl) 2 (.slice none 0 0) rfl)
  go_wp2
  refine bodyPost_ret (results_ct rfl _ _ b4 25 #[.int .i64 0,.slice none 0 0,.slice none 0 0] (0,0) _ rfl X3.out Tryz.underlying25 rfl (by kernel_rfl)) rfl ?_
  refine ⟨cs,rs,.slice none 0 0,.slice none 0 0,?_,HPC.out,HPR.out,?_,?_,below_set (below_set (below_set I6.out.below HLE.out) HLE.out) HLE.out⟩
  ·rw [HO.out];rfl
  ·rw [HO.out];exact Kd.R_nil _ _ _ _ _
  ·rw [HO.out];exact Kd.R_nil _ _ _ _ _
 | true =>
 go_wp2_with fail
 refine (HTC.out _ HK5.out).mono ?_
 rintro e W6 ⟨rfl,hb6⟩
 have HK6:=aK (below_step HK5.out hb6)
 have I6:=aK (I2.out.ofBelow hb6)
 clear hb6 p1 HTC
 have HX6:=aK (blk_below HX2.out HK6.out)
 have p2:=(blk_cell HX6.out 2).trans rfl
 cases y2 with
 | false =>
  go_wp2_with fail
  refine (HTR.out _ HK6.out).mono ?_
  rintro e W7 ⟨rfl,hb7⟩
  have I7:=aK (I6.out.ofBelow hb7)
  clear hb7 p2
  have HO:Aside0 (mergeE sz ca ra sz2 cb rb cs rs=(0,[],[],14)):=⟨by rw [HE1.out];rfl⟩
  have q0:=blk_frozen I7.out.res 0
  have q1:=blk_frozen I7.out.res 1
  have q2:=blk_frozen I7.out.res 2
  have q3:=(blk_cell I7.out.res 0).trans rfl
  have q4:=(blk_cell I7.out.res 1).trans rfl
  have q5:=(blk_cell I7.out.res 2).trans rfl
  have X3:=aK (blk_put (blk_put (blk_put I7.out.res 0 (.int .i64 0) rfl) 1 (.slice none 0 0) rfl) 2 (.slice none 0 0) rfl)
  go_wp2
  refine bodyPost_ret (results_ct rfl _ _ b4 25 #[.int .i64 0,.slice none 0 0,.slice none 0 0] (0,0) _ rfl X3.out Tryz.underlying25 rfl (by kernel_rfl)) rfl ?_
  refine ⟨cs,rs,.slice none 0 0,.slice none 0 0,?_,HPC.out,HPR.out,?_,?_,below_set (below_set (below_set I7.out.below HLE.out) HLE.out) HLE.out⟩
  ·rw [HO.out];rfl
  ·rw [HO.out];exact Kd.R_nil _ _ _ _ _
  ·rw [HO.out];exact Kd.R_nil _ _ _ _ _
 | true =>
 go_wp2_with fail
 refine (HTR.out _ HK6.out).mono ?_
 rintro e W7 ⟨rfl,hb7⟩
 have HK7:=aK (below_step HK6.out hb7)
 have I7:=aK (I6.out.ofBelow hb7)
 clear hb7 p2 HK6 HX6 HTR I6
 have HX7:=aK (blk_below HX2.out HK7.out)
 have g0:=(blk_cell HX7.out 0).trans rfl
 have g1:=(blk_cell HX7.out 1).trans rfl
 have g2:=(blk_cell HX7.out 2).trans rfl
 cases y3 with
 | false =>
  go_wp2_with fail
  refine (HVC.out _ HK7.out).mono ?_
  rintro e W8 ⟨rfl,hb8⟩
  have I8:=aK (I7.out.ofBelow hb8)
  clear hb8 g0 g1 g2
  have HO:Aside0 (mergeE sz ca ra sz2 cb rb cs rs=(0,[],[],3)):=⟨by rw [HE1.out];rfl⟩
  have q0:=blk_frozen I8.out.res 0
  have q1:=blk_frozen I8.out.res 1
  have q2:=blk_frozen I8.out.res 2
  have q3:=(blk_cell I8.out.res 0).trans rfl
  have q4:=(blk_cell I8.out.res 1).trans rfl
  have q5:=(blk_cell I8.out.res 2).trans rfl
  have X3:=aK (blk_put (blk_put (blk_put I8.out.res 0 (.int .i64 0) rfl) 1 (.slice none 0 0) rfl) 2 (.slice none 0 0) rfl)
  go_wp2
  refine bodyPost_ret (results_ct rfl _ _ b4 25 #[.int .i64 0,.slice none 0 0,.slice none 0 0] (0,0) _ rfl X3.out Tryz.underlying25 rfl (by kernel_rfl)) rfl ?_
  refine ⟨cs,rs,.slice none 0 0,.slice none 0 0,?_,HPC.out,HPR.out,?_,?_,below_set (below_set (below_set I8.out.below HLE.out) HLE.out) HLE.out⟩
  ·rw [HO.out];rfl
  ·rw [HO.out];exact Kd.R_nil _ _ _ _ _
  ·rw [HO.out];exact Kd.R_nil _ _ _ _ _
 | true =>
 go_wp2_with fail
 refine (HVC.out _ HK7.out).mono ?_
 rintro e W8 ⟨rfl,hb8⟩
 have HK:=aK (below_step HK7.out hb8)
 have I8:=aK (I7.out.ofBelow hb8)
 clear hb8 g0 g1 g2 HK7 HX7 HVC I7
 have HO:Aside0 (mergeE sz ca ra sz2 cb rb cs rs=(sz,cs,rs,0)):=⟨by rw [HE1.out];rfl⟩
 have HX8:=aK (blk_below HX2.out HK.out)
 have g0:=(blk_cell HX8.out 0).trans rfl
 have g1:=(blk_cell HX8.out 1).trans rfl
 have g2:=(blk_cell HX8.out 2).trans rfl
 have q0:=blk_frozen I8.out.res 0
 have q1:=blk_frozen I8.out.res 1
 have q2:=blk_frozen I8.out.res 2
 have q3:=(blk_cell I8.out.res 0).trans rfl
 have q4:=(blk_cell I8.out.res 1).trans rfl
 have q5:=(blk_cell I8.out.res 2).trans rfl
 have T1:=aK (Kd.R_below S1.out HK.out)
 have T2:=aK (Kd.R_below S2.out HK.out)
 have X1:=aK (blk_put I8.out.res 0 (.int .i64 sz) rfl)
 have X2:=aK (blk_put X1.out 1 (.slice A3 cs.length c3) rfl)
 have X3:=aK (blk_put X2.out 2 (.slice A4 rs.length c4) rfl)
 go_wp2
 refine bodyPost_ret (results_ct rfl _ _ b4 25 #[.int .i64 sz,.slice A3 cs.length c3,.slice A4 rs.length c4] (0,0) _ rfl X3.out Tryz.underlying25 rfl (by kernel_rfl)) rfl ?_
 refine ⟨cs,rs,.slice A3 cs.length c3,.slice A4 rs.length c4,?_,HPC.out,HPR.out,?_,?_,below_set (below_set (below_set I8.out.below HLE.out) HLE.out) HLE.out⟩
 ·rw [HO.out];rfl
 ·rw [HO.out];exact Kd.R_set (Kd.R_set (Kd.R_set T1.out I8.out.res (fun q hq=>by rw [opq50 q hq];decide) 0 _) X1.out (fun q hq=>by rw [opq50 q hq];decide) 1 _) X2.out (fun q hq=>by rw [opq50 q hq];decide) 2 _
 ·rw [HO.out];exact Kd.R_set (Kd.R_set (Kd.R_set T2.out I8.out.res (fun q hq=>by rw [opq45 q hq];decide) 0 _) X1.out (fun q hq=>by rw [opq45 q hq];decide) 1 _) X2.out (fun q hq=>by rw [opq45 q hq];decide) 2 _
end Go.Proofs.YtoemkemmiikhlaaGreat.PF4
