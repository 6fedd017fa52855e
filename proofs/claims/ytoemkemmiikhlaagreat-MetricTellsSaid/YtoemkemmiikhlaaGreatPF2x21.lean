import Derived.Test.YtoemkemmiikhlaaGreatPF2x0
import Derived.Test.YtoemkemmiikhlaaGreatPF2x3
import Derived.Test.YtoemkemmiikhlaaGreatPF2x5
import Derived.Test.YtoemkemmiikhlaaGreatPF2x6
import Derived.Test.YtoemkemmiikhlaaGreatPF2x7
import Derived.Test.YtoemkemmiikhlaaGreatPF2x13
import Derived.Test.YtoemkemmiikhlaaGreatPF2x17
import Derived.Test.YtoemkemmiikhlaaGreatPF2x18
import Derived.Test.YtoemkemmiikhlaaGreatPF2x19
import Derived.Test.YtoemkemmiikhlaaGreatPF2x20
namespace Go.Proofs.YtoemkemmiikhlaaGreat.PF2
open Go.RowKit Go.Proofs.YtoemkemmiikhlaaGreatW.PrintWords Go.Proofs.YtoemkemmiikhlaaGreatW.PrintLast Go.Proofs.YtoemkemmiikhlaaGreatW.PrintMore
attribute [local go_sem] max2_int min2_int max_two min_two max_three min_three max_four min_four
set_option linter.unusedVariables false
set_option linter.unusedSimpArgs false
theorem floorW_is (v s m:Int) (hv : -268435456≤v∧v≤268435456) (hs:1≤s∧s≤268435456) (hm:1≤m∧m≤268435456):fleuronref16_Floor.f (wrap64 (wrap64 (wrap64 (2*v)*s)+m)) (wrap64 (2*m))=some (scaleV v s m):=by
 obtain ⟨r1,r2,r3,r4⟩:=scale_room v s m hv hs hm
 have hq:=Int.natAbs_tdiv_le_natAbs (2*v*s+m) (2*m)
 rw [r1,r2]
 unfold fleuronref16_Floor.f scaleV
 rw [if_neg (show ¬ 2*m=0 by omega)]
 generalize (2*v*s+m).tdiv (2*m)=q at *
 generalize (2*v*s+m).tmod (2*m)=t at *
 generalize 2*v*s+m=p at *
 have e1:wrap64 q=q:=by unfold wrap64;omega
 have e2:wrap64 (q-1)=q-1:=by unfold wrap64;omega
 rw [e1,e2]
 split <;> rfl
def dAt (f:Nat→Int) (k:Nat):Array Value:=#[.int .i64 (if 0<k then f 0 else 0),.int .i64 (if 1<k then f 1 else 0),.int .i64 (if 2<k then f 2 else 0)]
theorem dAt_next (f:Nat→Int) (k:Nat) (h:k<3):(dAt f k).setIfInBounds k (.int .i64 (f k))=dAt f (k+1):=by
 match k,h with
 | 0,_=>rfl
 | 1,_=>rfl
 | 2,_=>rfl
theorem dAt_at (f:Nat→Int) (k:Nat) (h:k<3):(dAt f k)[k]?=some (.int .i64 0):=by
 match k,h with
 | 0,_=>rfl
 | 1,_=>rfl
 | 2,_=>rfl
theorem dAt_get (f:Nat→Int) (k:Nat) (h:k<3):(dAt f (k+1))[k]?=some (.int .i64 (f k)):=by
 match k,h with
 | 0,_=>rfl
 | 1,_=>rfl
 | 2,_=>rfl
def okS (s m:Int) (x:S50):Bool:=(List.range 3).all fun j=>coordB (scaleV (dimF j x) s m)
def okSR (s m:Int) (x:S45):Bool:=if x.f2=0 then coordB (scaleV x.f3 s m) else true
def scaleRM (sz:Int) (cs:List S50) (rs:List S45) (s:Int):Int×List S50×List S45×Int :=
 if validM sz cs rs then (if sizeB s then (if cs.all (okS s sz) && rs.all (okSR s sz) then (s,cs.map (scaleC s sz),rs.map (scaleR s sz),0) else (0,[],[],17)) else (0,[],[],2)) else (0,[],[],2)
set_option maxHeartbeats 8000000 in
set_option maxRecDepth 100000 in
theorem refScale_calls (k : Nat) (sz : Int) (A1 : Option Addr) (c1 : Nat) (cs : List S50) (A2 : Option Addr) (c2 : Nat) (rs : List S45) (size : Int) (w : World)
  (hr1:Kd.C k50 w A1 cs.length cs) (hc1:cs.length≤c1) (hr2:Kd.C k45 w A2 rs.length rs) (hc2:rs.length≤c2) (hl1:cs.length≤1000000) (hl2:rs.length≤1000000) (hval:fleuronref27_Valid.f k sz cs rs=some (validM sz cs rs)) :
  Calls Tryz.prog 25 #[.agg #[.int .i64 sz,.slice A1 cs.length c1,.slice A2 rs.length c2],.int .i64 size] w fun e w'=>∃ v1 v2,e = .returned (.tuple #[.agg #[.int .i64 (scaleRM sz cs rs size).1,v1,v2],.int .i64 (scaleRM sz cs rs size).2.2.2])∧Kd.R k50 50 w' w.heap.size (fun _=>True) v1 (scaleRM sz cs rs size).2.1∧Kd.R k45 45 w' w.heap.size (fun _=>True) v2 (scaleRM sz cs rs size).2.2.1∧Below w.heap.size w w':=by
 have hu:=Tryz.underlying25
 have hu50:=Tryz.underlying50
 have hu45:=Tryz.underlying45
 have hu47:=Tryz.underlying47
 have HR1:=aK hr1
 have HR2:=aK hr2
 have HL1:=aK hl1
 have HL2:=aK hl2
 have HC1:=aK hc1
 have HC2:=aK hc2
 obtain ⟨b2,hb2⟩ : ∃ b2,b2=w.heap.size:=⟨_,rfl⟩
 obtain ⟨b4,hb4⟩ : ∃ b4,b4=w.heap.size+1:=⟨_,rfl⟩
 have I0:Aside0 (ResS w ((w.alloc (.cells #[.int .i64 sz,.slice A1 cs.length c1,.slice A2 rs.length c2] 25)).alloc (.cells #[.int .i64 0,.slice none 0 0,.slice none 0 0] 25)) b4∧((w.alloc (.cells #[.int .i64 sz,.slice A1 cs.length c1,.slice A2 rs.length c2] 25)).alloc (.cells #[.int .i64 0,.slice none 0 0,.slice none 0 0] 25)).heap[b2]?=some (.cells #[.int .i64 sz,.slice A1 cs.length c1,.slice A2 rs.length c2] 25 (0,0))):=⟨by
  refine ⟨⟨below_alloc (below_alloc (Below.refl w.heap.size w) _) _,by omega,?_⟩,by rw [hb2];exact blk_alloc (blk_new w _) _⟩
  have h1:=blk_new (w.alloc (.cells #[.int .i64 sz,.slice A1 cs.length c1,.slice A2 rs.length c2] 25)) (.cells #[.int .i64 0,.slice none 0 0,.slice none 0 0] 25)
  simp only [World.size_alloc] at h1
  rw [← hb4] at h1
  exact h1⟩
 obtain ⟨r,hr⟩ : ∃ r,r=scaleRM sz cs rs size:=⟨_,rfl⟩
 rw [← hr]
 have HF:=aK hr
 have HBE:=aK (And.intro hb2 hb4)
 have hc:=fun V (h1:Kd.C k50 V A1 cs.length cs) (h2:Kd.C k45 V A2 rs.length rs)=>fleuronref27_Valid.calls k sz A1 c1 cs A2 c2 rs (validM sz cs rs) V h1 hc1 h2 hc2 hval
 clear hr1 hr2 hl1 hl2 hc1 hc2 hr hb2 hb4 hval
 go_enter Tryz.func25,Tryz.ntmps25
 go_upto_region 1 with (fail)
 rw [← HBE.out.2,← HBE.out.1]
 generalize (w.alloc (.cells #[.int .i64 sz,.slice A1 cs.length c1,.slice A2 rs.length c2] 25)).alloc (.cells #[.int .i64 0,.slice none 0 0,.slice none 0 0] 25)=V at *
 have p0:=(blk_cell I0.out.2 0).trans rfl
 have p1:=(blk_cell I0.out.2 1).trans rfl
 have p2:=(blk_cell I0.out.2 2).trans rfl
 replace hc:=hc V (Kd.C_below HR1.out I0.out.1.below) (Kd.C_below HR2.out I0.out.1.below)
 cases hv:validM sz cs rs with
 | false =>
  have HO:Aside0 (r=(0,[],[],2)):=⟨by rw [HF.out,scaleRM,hv];rfl⟩
  rw [hv] at hc
  clear hv HF
  go_wp2_with fail
  refine hc.mono ?_
  clear hc p0 p1 p2
  rintro e W1 ⟨rfl,hb1⟩
  have I1:=aK (I0.out.1.ofBelow hb1)
  clear hb1 I0
  have q0:=blk_frozen I1.out.res 0
  have q1:=blk_frozen I1.out.res 1
  have q2:=blk_frozen I1.out.res 2
  have q3:=(blk_cell I1.out.res 0).trans rfl
  have q4:=(blk_cell I1.out.res 1).trans rfl
  have q5:=(blk_cell I1.out.res 2).trans rfl
  have X3:=aK (blk_put (blk_put (blk_put I1.out.res 0 (.int .i64 0) rfl) 1 (.slice none 0 0) rfl) 2 (.slice none 0 0) rfl)
  go_wp2
  refine bodyPost_ret (results_ct rfl _ _ b4 25 #[.int .i64 0,.slice none 0 0,.slice none 0 0] (0,0) _ rfl X3.out Tryz.underlying25 rfl (by kernel_rfl)) rfl ?_
  rw [HO.out]
  exact ⟨.slice none 0 0,.slice none 0 0,rfl,Kd.R_nil _ _ _ _ _,Kd.R_nil _ _ _ _ _,below_set (below_set (below_set I1.out.below I1.out.le) I1.out.le) I1.out.le⟩
 | true =>
 rw [hv] at hc
 have HF2:Aside0 (r=if sizeB size then (if cs.all (okS size sz) && rs.all (okSR size sz) then (size,cs.map (scaleC size sz),rs.map (scaleR size sz),0) else (0,[],[],17)) else (0,[],[],2)):=⟨by rw [HF.out,scaleRM,hv,if_pos rfl]⟩
 have hvr:sizeB sz=true∧cs.all okC=true∧rs.all okR=true:=by
  unfold validM validR at hv
  simp only [Bool.and_eq_true] at hv
  exact ⟨hv.1,hv.2.2.1,hv.2.2.2.2.2.1⟩
 have HVR:=aK hvr
 have HS:=aK (fun V=>fleuronref27_Size.calls size (sizeB size) V (sizeW_is size))
 clear hv HF hvr
 go_wp2_with fail
 refine hc.mono ?_
 clear hc p0 p1 p2
 rintro e W1 ⟨rfl,hb1⟩
 have I1:=aK (I0.out.1.ofBelow hb1)
 have M1:=aK (blk_below I0.out.2 hb1)
 clear hb1 I0
 cases hs:sizeB size with
 | false =>
  rw [hs] at HS
  have HO:Aside0 (r=(0,[],[],2)):=⟨by rw [HF2.out,hs,if_neg (by decide)]⟩
  clear hs HF2 HVR
  go_wp2_with fail
  refine (HS.out _).mono ?_
  rintro e W2 ⟨rfl,⟨n2,rfl⟩⟩
  have I2:=aK (I1.out.ofBelow (pw_below_drewN (Below.refl W1.heap.size W1) n2))
  generalize W1.drewN n2=W2 at *
  clear I1 HS M1
  have q0:=blk_frozen I2.out.res 0
  have q1:=blk_frozen I2.out.res 1
  have q2:=blk_frozen I2.out.res 2
  have q3:=(blk_cell I2.out.res 0).trans rfl
  have q4:=(blk_cell I2.out.res 1).trans rfl
  have q5:=(blk_cell I2.out.res 2).trans rfl
  have X3:=aK (blk_put (blk_put (blk_put I2.out.res 0 (.int .i64 0) rfl) 1 (.slice none 0 0) rfl) 2 (.slice none 0 0) rfl)
  go_wp2
  refine bodyPost_ret (results_ct rfl _ _ b4 25 #[.int .i64 0,.slice none 0 0,.slice none 0 0] (0,0) _ rfl X3.out Tryz.underlying25 rfl (by kernel_rfl)) rfl ?_
  rw [HO.out]
  exact ⟨.slice none 0 0,.slice none 0 0,rfl,Kd.R_nil _ _ _ _ _,Kd.R_nil _ _ _ _ _,below_set (below_set (below_set I2.out.below I2.out.le) I2.out.le) I2.out.le⟩
 | true =>
 rw [hs] at HS
 have HF3:Aside0 (r=if cs.all (okS size sz) && rs.all (okSR size sz) then (size,cs.map (scaleC size sz),rs.map (scaleR size sz),0) else (0,[],[],17)):=⟨by rw [HF2.out,hs,if_pos rfl]⟩
 have hsr:(1≤size∧size≤268435456)∧(1≤sz∧sz≤268435456):=by
  have h1:=HVR.out.1
  unfold sizeB at hs h1
  simp only [Bool.and_eq_true,decide_eq_true_eq] at hs h1
  omega
 have HSR:=aK hsr
 clear hs HF2 hsr
 go_wp2_with fail
 refine (HS.out _).mono ?_
 rintro e W2 ⟨rfl,⟨n2,rfl⟩⟩
 have I2:=aK (I1.out.ofBelow (pw_below_drewN (Below.refl W1.heap.size W1) n2))
 have M2:=aK (blk_below M1.out (pw_below_drewN (Below.refl W1.heap.size W1) n2))
 generalize W1.drewN n2=W2 at *
 clear I1 HS M1
 obtain ⟨b6,hb6⟩ : ∃ b6,b6=W2.heap.size:=⟨_,rfl⟩
 have J0:Aside0 (MetS w (W2.alloc (.cells #[.int .i64 size,.slice none 0 0,.slice none 0 0] 25)) b4 b6 size [] []):=⟨by
  have hx:=blk_new W2 (.cells #[.int .i64 size,.slice none 0 0,.slice none 0 0] 25)
  rw [← hb6] at hx
  exact ⟨⟨below_alloc I2.out.below _,I2.out.le,blk_alloc I2.out.res _⟩,by rw [hb6];exact I2.out.below.size,by have:=blk_lt I2.out.res;omega,_,_,hx,Kd.R_nil _ _ _ _ _,Kd.R_nil _ _ _ _ _⟩⟩
 have M3:Aside0 ((W2.alloc (.cells #[.int .i64 size,.slice none 0 0,.slice none 0 0] 25)).heap[b2]?=some (.cells #[.int .i64 sz,.slice A1 cs.length c1,.slice A2 rs.length c2] 25 (0,0))):=⟨blk_alloc M2.out _⟩
 have HBE6:=aK hb6
 have HNE:Aside0 (b2≠b6):=⟨by have:=blk_lt M2.out;omega⟩
 clear hb6 I2 M2
 go_upto_region 5 with (fail)
 rw [← HBE6.out]
 generalize W2.alloc (.cells #[.int .i64 size,.slice none 0 0,.slice none 0 0] 25)=W3 at *
 have o1:=(blk_cell M3.out 1).trans rfl
 go_upto_block 0 with (fail)
 clear o1
 go_cut [7] (fun s7 wc=>∃ b:Bool,s7 = .bool b∧Aside0 (b=cs.all (okS size sz))∧Aside0 (MetS w wc b4 b6 size (cs.map (scaleC size sz)) [])∧Aside0 (wc.heap[b2]?=some (.cells #[.int .i64 sz,.slice A1 cs.length c1,.slice A2 rs.length c2] 25 (0,0))))
 case first =>
  go_wp2_with fail
  go_loopg [7,28] cs.length (fun gg s7 s28 wr=>∃ (i:Nat) (b:Bool),i≤cs.length∧cs.length-i≤gg∧s7 = .bool b∧s28 = .int .i64 i∧Aside0 (b=(cs.take i).all (okS size sz))∧Aside0 (MetS w wr b4 b6 size ((cs.take i).map (scaleC size sz)) [])∧Aside0 (wr.heap[b2]?=some (.cells #[.int .i64 sz,.slice A1 cs.length c1,.slice A2 rs.length c2] 25 (0,0))))
  case atStart=>exact ⟨0,true,by omega,by omega,rfl,rfl,⟨rfl⟩,J0,M3⟩
  case round =>
   clear J0 M3
   obtain ⟨i,b,hi,hg,rfl,rfl,HBB,J,MB⟩:=hrel
   by_cases hlt:i<cs.length
   ·have hlti:(i:Int)<(cs.length:Int):=by omega
    have hi0:(0:Int)≤(i:Int):=by omega
    obtain ⟨ad,e1,hx0,hx1,hx2,hx3⟩:=at_T50 HR1.out (i:Int) hi0 hlti
    simp only [Int.toNat_natCast] at hx0 hx1 hx2 hx3
    replace hx0:=(J.out.base.below.cell (World.block_lt_of_cell? w _ hx0)).trans hx0
    replace hx1:=(J.out.base.below.cell (World.block_lt_of_cell? w _ hx1)).trans hx1
    replace hx2:=(J.out.base.below.cell (World.block_lt_of_cell? w _ hx2)).trans hx2
    replace hx3:=(J.out.base.below.cell (World.block_lt_of_cell? w _ hx3)).trans hx3
    have hrd:rd_T50 cs (i:Int)=cs[i]:=by simp [rd_T50,List.getD_eq_getElem?_getD,hlt]
    have HA:=aK (all_next (okS size sz) cs i hlt)
    have HMN:=aK (map_next (scaleC size sz) cs i hlt)
    have HXR:=aK (okC_room HVR.out.2.1 i hlt)
    rw [← hrd] at HA HMN HXR
    generalize rd_T50 cs (i:Int)=x at *
    have HSTEP:=aK (show wrap64 ((i:Int)+1)=((i+1:Nat):Int) by have:=HL1.out;unfold wrap64;omega)
    have HTL2:Aside0 ((((cs.take i).map (scaleC size sz)).length+1)*32≤140737488355328):=⟨by have:=HL1.out;simp;omega⟩
    generalize (cs.take i).map (scaleC size sz)=xs at *
    have hb9:=below_alloc (below_alloc (Below.refl wr.heap.size wr) (.cells #[.int .i64 x.f0,.int .i64 x.f1,.int .i64 x.f2,.int .i64 x.f3] 50)) (.cells #[.int .i64 0,.int .i64 0,.int .i64 0] 47)
    have J2:=aK (J.out.ofBelow hb9)
    have MB2:=aK (blk_below MB.out hb9)
    have X2:=aK (blk_alloc (blk_new wr (.cells #[.int .i64 x.f0,.int .i64 x.f1,.int .i64 x.f2,.int .i64 x.f3] 50)) (.cells #[.int .i64 0,.int .i64 0,.int .i64 0] 47))
    have D2:=aK (blk_new (wr.alloc (.cells #[.int .i64 x.f0,.int .i64 x.f1,.int .i64 x.f2,.int .i64 x.f3] 50)) (.cells #[.int .i64 0,.int .i64 0,.int .i64 0] 47))
    have HW10:Aside0 (w.heap.size≤(wr.alloc (.cells #[.int .i64 x.f0,.int .i64 x.f1,.int .i64 x.f2,.int .i64 x.f3] 50)).heap.size):=⟨by have:=J.out.base.below.size;simp;omega⟩
    subst e1
    clear hrd hb9 J MB
    go_upto_region 9 with (fail)
    simp only [World.size_alloc] at D2 HW10
    obtain ⟨b10,hb10⟩ : ∃ b,b=wr.heap.size+1:=⟨_,rfl⟩
    rw [← hb10] at D2 HW10 ⊢
    clear hb10
    generalize wr.heap.size=b9 at *
    generalize (wr.alloc (.cells #[.int .i64 x.f0,.int .i64 x.f1,.int .i64 x.f2,.int .i64 x.f3] 50)).alloc (.cells #[.int .i64 0,.int .i64 0,.int .i64 0] 47)=V2 at *
    clear hx0 hx1 hx2 hx3
    obtain ⟨wo,hwo⟩ : ∃ wo:World,wo=wr:=⟨_,rfl⟩
    subst hwo
    go_wp2_with fail
    go_loopg [7,32] 3 (fun gg s7 s32 wr=>∃ (kk:Nat) (b':Bool),kk≤3∧3-kk≤gg∧s7 = .bool b'∧s32 = .int .i64 kk∧Aside0 (b'=(b && (List.range kk).all fun j=>coordB (scaleV (dimF j x) size sz)))∧Aside0 (MetS w wr b4 b6 size xs [])∧Aside0 (wr.heap[b2]?=some (.cells #[.int .i64 sz,.slice (some ad) cs.length c1,.slice A2 rs.length c2] 25 (0,0)))∧Aside0 (wr.heap[b9]?=some (.cells #[.int .i64 x.f0,.int .i64 x.f1,.int .i64 x.f2,.int .i64 x.f3] 50 (0,0)))∧Aside0 (wr.heap[b10]?=some (.cells (dAt (fun j=>scaleV (dimF j x) size sz) kk) 47 (0,0))))
    case atStart=>exact ⟨0,b,by omega,by omega,rfl,rfl,⟨by simp⟩,J2,MB2,X2,D2⟩
    case round =>
     clear J2 MB2 X2 D2
     obtain ⟨kk,b',hkk,hgk,rfl,rfl,HBK,J3,MB3,X3,D3⟩:=hrel
     by_cases hlt3:kk<3
     ·have hlt3i:(kk:Int)<3:=by omega
      have hk0:(0:Int)≤(kk:Int):=by omega
      have hvr : -268435456≤dimF kk x∧dimF kk x≤268435456:=by
       match kk,hlt3 with
       | 0,_=>exact HXR.out.1
       | 1,_=>exact HXR.out.2.1
       | 2,_=>exact HXR.out.2.2
      have HFL:=aK (floorW_is (dimF kk x) size sz hvr HSR.out.1 HSR.out.2)
      have HDN:=aK (show (dAt (fun j=>scaleV (dimF j x) size sz) kk).setIfInBounds kk (.int .i64 (scaleV (dimF kk x) size sz))=dAt (fun j=>scaleV (dimF j x) size sz) (kk+1) from dAt_next _ kk hlt3)
      have HAT:=aK (dAt_at (fun j=>scaleV (dimF j x) size sz) kk hlt3)
      have HGT:=aK (show (dAt (fun j=>scaleV (dimF j x) size sz) (kk+1))[kk]?=some (.int .i64 (scaleV (dimF kk x) size sz)) from dAt_get _ kk hlt3)
      have HDIM:=aK (fun V=>dimR_calls x kk hlt3 V)
      have HRN:Aside0 ((b && (List.range (kk+1)).all fun j=>coordB (scaleV (dimF j x) size sz))=((b && (List.range kk).all fun j=>coordB (scaleV (dimF j x) size sz)) && coordB (scaleV (dimF kk x) size sz))):=⟨by rw [List.range_succ,List.all_append,Bool.and_assoc];simp⟩
      rw [← HBK.out] at HRN
      have HSTEP3:=aK (show wrap64 ((kk:Int)+1)=((kk+1:Nat):Int) by unfold wrap64;omega)
      generalize dimF kk x=v at *
      have J3d:=aK (J3.out.ofBelow (below_drew1 (Below.refl _ _)))
      have MB3d:=aK (blk_drew MB3.out)
      have X3d:=aK (blk_drew X3.out)
      have D3d:=aK (blk_drew D3.out)
      clear hvr J3 MB3 X3 D3 HBK
      go_upto_region 12 with (fail)
      refine start_ (n:=16) (S:=fun w'=>w'.cell? ⟨b9,0,none⟩=some (.int .i64 x.f0)∧w'.cell? ⟨b9,1,none⟩=some (.int .i64 x.f1)∧w'.cell? ⟨b9,2,none⟩=some (.int .i64 x.f2)∧w'.cell? ⟨b9,3,none⟩=some (.int .i64 x.f3)∧w'.cell? ⟨b2,0,none⟩=some (.int .i64 sz)) (ds:=[15]) #[false,false,false,false,false,false,false,false,false,false,false,false,false,false,false,false] (by kernel_rfl) rfl rfl ⟨(blk_cell X3d.out 0).trans rfl,(blk_cell X3d.out 1).trans rfl,(blk_cell X3d.out 2).trans rfl,(blk_cell X3d.out 3).trans rfl,(blk_cell MB3d.out 0).trans rfl⟩ (fun hHeld=>?_)
      refine pu 0 (some 35) ?_ rfl rfl (by kernel_rfl) (fun _ _ _ h=>h) (.inl ⟨by rfl,?_⟩) ?_ ?_ ?_;rotate_left;intro w';go_simp;with_reducible rfl;rotate_left;simp only [nS];rfl
      refine pu 2 (some 37) ?_ rfl rfl (by kernel_rfl) (fun _ _ _ h=>h) (.inl ⟨by rfl,?_⟩) ?_ ?_ ?_;rotate_left;intro w';go_simp;with_reducible rfl;rotate_left;simp only [nS];rfl
      refine pu 5 (some 40) ?_ rfl rfl (by kernel_rfl) (fun _ _ _ h=>h) (.inl ⟨by rfl,?_⟩) ?_ ?_ ?_;rotate_left;intro w';go_simp;with_reducible rfl;rotate_left;simp only [nS];rfl
      refine pu 7 (some 42) ?_ rfl rfl (by kernel_rfl) (fun _ _ _ h=>h) (.inl ⟨by rfl,?_⟩) ?_ ?_ ?_;rotate_left;intro w';go_simp;with_reducible rfl;rotate_left;simp only [nS];rfl
      refine pu 10 (some 45) ?_ rfl rfl (by kernel_rfl) (fun _ _ _ h=>h) (.inl ⟨by rfl,?_⟩) ?_ ?_ ?_;rotate_left;intro w';go_simp;with_reducible rfl;rotate_left;simp only [nS];rfl
      refine tk 1 (some 36) ?_ rfl rfl (by kernel_rfl) (fun _ _ _ h=>h) (.inl ⟨by rfl,?_⟩) hHeld ?_ ?_ ?_;rotate_left;rintro w' ⟨s0,s1,s2,s3,s4⟩;go_simp;with_reducible rfl;rotate_left;simp only [nS];rfl
      refine tk 8 (some 43) ?_ rfl rfl (by kernel_rfl) (fun _ _ _ h=>h) (.inl ⟨by rfl,?_⟩) hHeld ?_ ?_ ?_;rotate_left;rintro w' ⟨s0,s1,s2,s3,s4⟩;go_simp;with_reducible rfl;rotate_left;simp only [nS];rfl
      refine tk 11 (some 46) ?_ rfl rfl (by kernel_rfl) (fun _ _ _ h=>h) (.inl ⟨by rfl,?_⟩) hHeld ?_ ?_ ?_;rotate_left;rintro w' ⟨s0,s1,s2,s3,s4⟩;go_simp;with_reducible rfl;rotate_left;simp only [nS];rfl
      refine pu 12 (some 47) ?_ rfl rfl (by kernel_rfl) (fun _ _ _ h=>h) (.inl ⟨by rfl,?_⟩) ?_ ?_ ?_;rotate_left;intro w';go_simp;with_reducible rfl;rotate_left;simp only [nS];rfl
      refine one_ (i:=3) (N:=some 38) #[true,true,true,true,false,true,false,true,true,false,true,true,true,false,false,false] rfl rfl (by kernel_rfl) (by decide) (fun K hK=>?_)
      refine goes_ Tryz.func65 (by kernel_rfl) rfl #[.agg #[.int .i64 x.f0,.int .i64 x.f1,.int .i64 x.f2,.int .i64 x.f3],.int .i64 kk] (by rfl) rfl rfl (by simp only [List.map_toArray,List.map_cons,List.map_nil];rfl) ?_
      refine (HDIM.out _).mono ?_
      rintro e Wa ⟨rfl,hb⟩
      have J4:=aK (J3d.out.ofBelow hb)
      have MB4:=aK (blk_below MB3d.out hb)
      have X4:=aK (blk_below X3d.out hb)
      have D4:=aK (blk_below D3d.out hb)
      clear hb
      refine ⟨_,rfl,?_⟩
      refine hK.out _ _ ⟨(blk_cell X4.out 0).trans rfl,(blk_cell X4.out 1).trans rfl,(blk_cell X4.out 2).trans rfl,(blk_cell X4.out 3).trans rfl,(blk_cell MB4.out 0).trans rfl⟩ (fun hHeld=>?_)
      clear hK K
      refine norm_ (a':=?_) ?_ ?_;rotate_left;show Act.put _ (some 38) _=_;simp only [nS];rfl
      refine pu 4 (some 39) ?_ rfl rfl (by kernel_rfl) (fun _ _ _ h=>h) (.inl ⟨by rfl,?_⟩) ?_ ?_ ?_;rotate_left;intro w';go_simp;with_reducible rfl;rotate_left;simp only [nS];rfl
      refine pu 6 (some 41) ?_ rfl rfl (by kernel_rfl) (fun _ _ _ h=>h) (.inl ⟨by rfl,?_⟩) ?_ ?_ ?_;rotate_left;intro w';go_simp;with_reducible rfl;rotate_left;simp only [nS];rfl
      refine pu 9 (some 44) ?_ rfl rfl (by kernel_rfl) (fun _ _ _ h=>h) (.inl ⟨by rfl,?_⟩) ?_ ?_ ?_;rotate_left;intro w';go_simp;with_reducible rfl;rotate_left;simp only [nS];rfl
      refine one_ (i:=13) (N:=some 48) #[true,true,true,true,true,true,true,true,true,true,true,true,true,true,false,false] rfl rfl (by kernel_rfl) (by decide) (fun K hK=>?_)
      refine goes_ Tryz.func64 (by kernel_rfl) rfl #[.int .i64 (wrap64 (wrap64 (wrap64 (2*v)*size)+sz)),.int .i64 (wrap64 (2*sz))] (by rfl) rfl rfl (by simp only [List.map_toArray,List.map_cons,List.map_nil];rfl) ?_
      refine (fleuronref16_Floor.calls _ _ _ _ HFL.out).mono ?_
      rintro e Wb ⟨rfl,⟨nb,rfl⟩⟩
      have hb:=pw_below_drewN (Below.refl Wa.heap.size Wa) nb
      have J5:=aK (J4.out.ofBelow hb)
      have MB5:=aK (blk_below MB4.out hb)
      have X5:=aK (blk_below X4.out hb)
      have D5:=aK (blk_below D4.out hb)
      clear hb
      refine ⟨_,rfl,?_⟩
      refine hK.out _ _ ⟨(blk_cell X5.out 0).trans rfl,(blk_cell X5.out 1).trans rfl,(blk_cell X5.out 2).trans rfl,(blk_cell X5.out 3).trans rfl,(blk_cell MB5.out 0).trans rfl⟩ (fun hHeld=>?_)
      clear hK K
      refine norm_ (a':=?_) ?_ ?_;rotate_left;show Act.put _ (some 48) _=_;simp only [nS];rfl
      refine pu 14 (some 49) ?_ rfl rfl (by kernel_rfl) (fun _ _ _ h=>h) (.inl ⟨by rfl,?_⟩) ?_ ?_ ?_;rotate_left;intro w';go_simp;with_reducible rfl;rotate_left;simp only [nS];rfl
      refine last_ (i:=15) (N:=none) #[true,true,true,true,true,true,true,true,true,true,true,true,true,true,true,true] rfl rfl (by kernel_rfl) (by decide) (fun K hK=>?_)
      have f1:=(blk_cell D5.out kk).trans HAT.out
      have f2:=blk_frozen D5.out kk
      refine skip_ (w1:=?_) (by rfl) rfl ?_ ?_
      rotate_left
      ·go_simp
       rfl
      refine hK.out _ _ ?_
      clear hK K
      refine done_ (by kernel_rfl) ?_
      have D6:=aK (blk_set D5.out kk (.int .i64 (scaleV v size sz)))
      rw [HDN.out] at D6
      have J6:=aK (J5.out.far (j:=kk) (v:=.int .i64 (scaleV v size sz)) D5.out HW10.out (by decide) (by decide) (by decide))
      have MB6:=aK (blk_far MB5.out (blk_ne MB5.out D5.out (by decide)) (.int .i64 (scaleV v size sz)):((Wa.drewN nb).setCell ⟨b10,kk,none⟩ (.int .i64 (scaleV v size sz))).heap[b2]?=_)
      have X6:=aK (blk_far X5.out (blk_ne X5.out D5.out (by decide)) (.int .i64 (scaleV v size sz)):((Wa.drewN nb).setCell ⟨b10,kk,none⟩ (.int .i64 (scaleV v size sz))).heap[b9]?=_)
      generalize (Wa.drewN nb).setCell ⟨b10,kk,none⟩ (.int .i64 (scaleV v size sz))=W6 at *
      clear f1 f2 hHeld J3d MB3d X3d D3d J4 MB4 X4 D4 J5 MB5 X5 D5 HFL HDIM HDN HAT
      have f3:=(blk_cell D6.out kk).trans HGT.out
      have hcd:=aK (fun V=>fleuronref27_coord.calls (scaleV v size sz) _ V (coordW_is (scaleV v size sz)))
      generalize coordB (scaleV v size sz)=bc at *
      cases b' with
      | false =>
       go_wp2
       go_roundg (3-(kk+1))
       case measure=>omega
       case rel=>exact ⟨kk+1,false,by omega,by omega,rfl,by first|exact congrArg (Value.int .i64) HSTEP3.out|go_num,⟨by rw [HRN.out];rfl⟩,J6,MB6,X6,D6⟩
      | true =>
       go_wp2_with fail
       refine (hcd.out _).mono ?_
       rintro e W7 ⟨rfl,⟨n7,rfl⟩⟩
       have hb:=pw_below_drewN (Below.refl W6.heap.size W6) n7
       have J7:=aK (J6.out.ofBelow hb)
       have MB7:=aK (blk_below MB6.out hb)
       have X7:=aK (blk_below X6.out hb)
       have D7:=aK (blk_below D6.out hb)
       clear hb hcd f3 J6 MB6 X6 D6
       go_wp2
       go_roundg (3-(kk+1))
       case measure=>omega
       case rel=>exact ⟨kk+1,bc,by omega,by omega,rfl,by first|exact congrArg (Value.int .i64) HSTEP3.out|go_num,⟨by rw [HRN.out];rfl⟩,J7,MB7,X7,D7⟩
     ·have hlt3i : ¬ (kk:Int)<3:=by omega
      obtain rfl:kk=3:=by omega
      obtain ⟨v1,v2,hm,ho1,-⟩:=J3.out.met
      obtain ⟨A19,k19,rfl⟩:=Kd.R_slice ho1
      have q0:=blk_frozen hm 1
      have q1:=(blk_cell hm 1).trans rfl
      have y0:=(blk_cell X3.out 0).trans rfl
      have d0:wr.cell? ⟨b10,0,none⟩=some (.int .i64 (scaleV x.f1 size sz)):=(blk_cell D3.out 0).trans rfl
      have d1:wr.cell? ⟨b10,1,none⟩=some (.int .i64 (scaleV x.f2 size sz)):=(blk_cell D3.out 1).trans rfl
      have d2:wr.cell? ⟨b10,2,none⟩=some (.int .i64 (scaleV x.f3 size sz)):=(blk_cell D3.out 2).trans rfl
      have HO:=aK ho1
      have HMM:=aK hm
      clear hm ho1
      go_wp2_with ((with_reducible refine gate_builtin (b:=.append) (xs:=#[.tmp 59,.tmp 69]) rfl ?_);at_builtin;refine Kd.R_append k50 (w0:=w) w.heap.size rfl (.tmp 59) (.tmp 69) 22 50 (.agg #[.int .i64 0,.int .i64 0,.int .i64 0,.int .i64 0]) 32 rfl Tryz.underlying22 info50 rfl (by decide) (by omega) (.slice A19 xs.length k19) xs (⟨x.f0,scaleV x.f1 size sz,scaleV x.f2 size sz,scaleV x.f3 size sz⟩:S50) [.int .i64 x.f0,.int .i64 (scaleV x.f1 size sz),.int .i64 (scaleV x.f2 size sz),.int .i64 (scaleV x.f3 size sz)] (fun _=>True) (fun _=>False) rfl rfl (k50_mkM _ _ _ (⟨x.f0,scaleV x.f1 size sz,scaleV x.f2 size sz,scaleV x.f3 size sz⟩:S50)) (fun _ h=>h.elim) (fun _ _=>trivial) HO.out J3.out.base.below J3.out.base.below.size HTL2.out ?_;intro v9 w9 ho9 hb9 hg9 hat9;obtain ⟨A29,k29,rfl⟩:=Kd.R_slice ho9;have HK9:=KeepT.of_row HO.out hg9;have HT9:=HK9.blk HMM.out (by decide);have f0:=blk_frozen HT9 1;have f1:=(blk_cell HT9 1).trans rfl;have I14:=aK (J3.out.putC HK9 hb9 ho9);have MB14:=aK (blk_far (HK9.blk MB3.out (by decide)) HNE.out (.slice A29 (xs++[(⟨x.f0,scaleV x.f1 size sz,scaleV x.f2 size sz,scaleV x.f3 size sz⟩:S50)]).length k29):(w9.setCell ⟨b6,1,none⟩ _).heap[b2]?=_);clear ho9 hb9 hg9 hat9 HT9 HK9 q0 q1 y0 d0 d1 d2)
      have hlen1:(xs++[(⟨x.f0,scaleV x.f1 size sz,scaleV x.f2 size sz,scaleV x.f3 size sz⟩:S50)]).length=xs.length+1:=by simp
      rw [hlen1] at MB14
      have I15:=I14.out
      rw [hlen1] at I15
      have I16:=aK I15
      have HBN:Aside0 (b'=(cs.take (i+1)).all (okS size sz)):=⟨by rw [HA.out,← HBB.out,HBK.out];rfl⟩
      clear I15 I14 f0 f1 hlen1 HBK HA HBB
      go_roundg (cs.length-(i+1))
      case measure=>omega
      case rel=>exact ⟨i+1,b',by omega,by omega,rfl,by first|exact congrArg (Value.int .i64) HSTEP.out|go_num,HBN,⟨by rw [HMN.out];exact I16.out⟩,MB14⟩
   ·have hlti : ¬ (i:Int)<(cs.length:Int):=by omega
    obtain rfl:i=cs.length:=by omega
    rw [List.take_length] at HBB J
    go_wp2
    go_meet
    case rel=>exact ⟨b,rfl,HBB,J,MB⟩
 case rest =>
  clear J0 M3
  obtain ⟨b,rfl,HBC,J4,MB4⟩:=hcut
  rw [← HBC.out] at HF3
  have o1:=(blk_cell MB4.out 2).trans rfl
  generalize cs.map (scaleC size sz)=cs2 at *
  go_upto_block 4 with (fail)
  clear o1 HBC
  go_cut [7] (fun s7 wc=>∃ b':Bool,s7 = .bool b'∧Aside0 (b'=(b && rs.all (okSR size sz)))∧Aside0 (MetS w wc b4 b6 size cs2 (rs.map (scaleR size sz))))
  case first =>
   go_wp2_with fail
   go_loopg [7,76] rs.length (fun gg s7 s76 wr=>∃ (i:Nat) (b':Bool),i≤rs.length∧rs.length-i≤gg∧s7 = .bool b'∧s76 = .int .i64 i∧Aside0 (b'=(b && (rs.take i).all (okSR size sz)))∧Aside0 (MetS w wr b4 b6 size cs2 ((rs.take i).map (scaleR size sz)))∧Aside0 (wr.heap[b2]?=some (.cells #[.int .i64 sz,.slice A1 cs.length c1,.slice A2 rs.length c2] 25 (0,0))))
   case atStart=>exact ⟨0,b,by omega,by omega,rfl,rfl,⟨by simp⟩,J4,MB4⟩
   case round =>
    clear J4 MB4
    obtain ⟨i,b',hi,hg,rfl,rfl,HBB,J,MB⟩:=hrel
    by_cases hlt:i<rs.length
    ·have hlti:(i:Int)<(rs.length:Int):=by omega
     have hi0:(0:Int)≤(i:Int):=by omega
     obtain ⟨ad,e1,hx0,hx1,hx2,hx3⟩:=at_T45 HR2.out (i:Int) hi0 hlti
     simp only [Int.toNat_natCast] at hx0 hx1 hx2 hx3
     replace hx0:=(J.out.base.below.cell (World.block_lt_of_cell? w _ hx0)).trans hx0
     replace hx1:=(J.out.base.below.cell (World.block_lt_of_cell? w _ hx1)).trans hx1
     replace hx2:=(J.out.base.below.cell (World.block_lt_of_cell? w _ hx2)).trans hx2
     replace hx3:=(J.out.base.below.cell (World.block_lt_of_cell? w _ hx3)).trans hx3
     have hrd:rd_T45 rs (i:Int)=rs[i]:=by simp [rd_T45,List.getD_eq_getElem?_getD,hlt]
     have HA:=aK (all_next (okSR size sz) rs i hlt)
     have HMN:=aK (map_next (scaleR size sz) rs i hlt)
     have HXR:=aK (okR_room HVR.out.2.2 i hlt)
     rw [← hrd] at HA HMN HXR
     generalize rd_T45 rs (i:Int)=x at *
     have HSTEP:=aK (show wrap64 ((i:Int)+1)=((i+1:Nat):Int) by have:=HL2.out;unfold wrap64;omega)
     have HTL2:Aside0 ((((rs.take i).map (scaleR size sz)).length+1)*32≤140737488355328):=⟨by have:=HL2.out;simp;omega⟩
     generalize (rs.take i).map (scaleR size sz)=xs at *
     have HB2:=aK (below_alloc (Below.refl wr.heap.size wr) (.cells #[.int .i64 x.f0,.int .i64 x.f1,.int .i64 x.f2,.int .i64 x.f3] 45))
     have MB2:=aK (blk_below MB.out HB2.out)
     have X2:=aK (blk_new wr (.cells #[.int .i64 x.f0,.int .i64 x.f1,.int .i64 x.f2,.int .i64 x.f3] 45))
     subst e1
     clear hrd
     go_upto_region 20 with (fail)
     obtain ⟨b13,hb13⟩ : ∃ b,b=wr.heap.size:=⟨_,rfl⟩
     rw [← hb13] at X2 ⊢
     have HLE13:Aside0 (wr.heap.size≤b13):=⟨by omega⟩
     clear hb13
     generalize wr.alloc (.cells #[.int .i64 x.f0,.int .i64 x.f1,.int .i64 x.f2,.int .i64 x.f3] 45)=V2 at *
     clear hx0 hx1 hx2 hx3
     have y2:=(blk_cell X2.out 2).trans rfl
     go_upto_if 82 with (fail)
     go_cut [7] (fun s7 wc=>∃ (b'':Bool) (y:Int),s7 = .bool b''∧Aside0 (b''=(b' && okSR size sz x))∧Aside0 ((⟨x.f0,x.f1,x.f2,y⟩:S45)=scaleR size sz x)∧Aside0 (Below wr.heap.size wr wc)∧Aside0 (wc.heap[b13]?=some (.cells #[.int .i64 x.f0,.int .i64 x.f1,.int .i64 x.f2,.int .i64 y] 45 (0,0))))
     case first =>
      by_cases h0:x.f2=0
      ·have hz:(x.f2 == 0)=true:=by simpa using h0
       have HFL:=aK (floorW_is x.f3 size sz (HXR.out h0) HSR.out.1 HSR.out.2)
       have HOK:Aside0 ((b' && okSR size sz x)=(b' && coordB (scaleV x.f3 size sz))):=⟨by unfold okSR;rw [if_pos h0]⟩
       have HSX:Aside0 ((⟨x.f0,x.f1,x.f2,scaleV x.f3 size sz⟩:S45)=scaleR size sz x):=⟨by unfold scaleR;rw [if_pos h0]⟩
       clear h0
       have y3:=(blk_cell X2.out 3).trans rfl
       have m0:=(blk_cell MB2.out 0).trans rfl
       go_wp2_with fail
       refine (fleuronref16_Floor.calls _ _ _ _ HFL.out).mono ?_
       rintro e W3 ⟨rfl,⟨n3,rfl⟩⟩
       have hb:=pw_below_drewN (Below.refl V2.heap.size V2) n3
       have X3:=aK (blk_below X2.out hb)
       have f1:=(blk_cell X3.out 3).trans rfl
       have f2:=blk_frozen X3.out 3
       have X4:=aK (blk_put X3.out 3 (.int .i64 (scaleV x.f3 size sz)) rfl)
       have f3:=(blk_cell X4.out 3).trans rfl
       have HB4:Aside0 (Below wr.heap.size wr ((V2.drewN n3).setCell ⟨b13,3,none⟩ (.int .i64 (scaleV x.f3 size sz)))):=⟨below_set (below_step HB2.out hb) HLE13.out⟩
       have hcd:=aK (fun V=>fleuronref27_coord.calls (scaleV x.f3 size sz) _ V (coordW_is (scaleV x.f3 size sz)))
       generalize coordB (scaleV x.f3 size sz)=bc at *
       clear hb
       cases b' with
       | false =>
        go_wp2
        go_meet
        case rel=>exact ⟨false,_,rfl,⟨by rw [HOK.out];rfl⟩,HSX,HB4,X4⟩
       | true =>
        go_wp2_with fail
        refine (hcd.out _).mono ?_
        rintro e W7 ⟨rfl,⟨n7,rfl⟩⟩
        have HB7:=aK (pw_below_drewN HB4.out n7)
        have X7:=aK (blk_drewN X4.out n7)
        clear hcd
        go_wp2
        go_meet
        case rel=>exact ⟨bc,_,rfl,⟨by rw [HOK.out];rfl⟩,HSX,HB7,X7⟩
      ·have hz:(x.f2 == 0)=false:=by simpa using h0
       have HOK:Aside0 (b'=(b' && okSR size sz x)):=⟨by unfold okSR;rw [if_neg h0,Bool.and_true]⟩
       have HSX:Aside0 ((⟨x.f0,x.f1,x.f2,x.f3⟩:S45)=scaleR size sz x):=⟨by unfold scaleR;rw [if_neg h0]⟩
       clear h0
       go_wp2
       go_meet
       case rel=>exact ⟨b',x.f3,rfl,HOK,HSX,HB2,X2⟩
     case rest =>
      obtain ⟨b'',y,rfl,HOK,HSX,HBN,X5⟩:=hcut
      have J3:=aK (J.out.ofBelow HBN.out)
      have MB3:=aK (blk_below MB.out HBN.out)
      clear y2 HB2 MB2 X2 HBN J MB
      obtain ⟨v1,v2,hm,-,ho1⟩:=J3.out.met
      obtain ⟨A19,k19,rfl⟩:=Kd.R_slice ho1
      have q0:=blk_frozen hm 2
      have q1:=(blk_cell hm 2).trans rfl
      have y0:=(blk_cell X5.out 0).trans rfl
      have y1:=(blk_cell X5.out 1).trans rfl
      have y2:=(blk_cell X5.out 2).trans rfl
      have y3:=(blk_cell X5.out 3).trans rfl
      have HO:=aK ho1
      have HMM:=aK hm
      clear hm ho1
      go_wp2_with ((with_reducible refine gate_builtin (b:=.append) (xs:=#[.tmp 103,.tmp 105]) rfl ?_);at_builtin;refine Kd.R_append k45 (w0:=w) w.heap.size rfl (.tmp 103) (.tmp 105) 23 45 (.agg #[.int .i64 0,.int .i64 0,.int .i64 0,.int .i64 0]) 32 rfl Tryz.underlying23 info45 rfl (by decide) (by omega) (.slice A19 xs.length k19) xs (⟨x.f0,x.f1,x.f2,y⟩:S45) [.int .i64 x.f0,.int .i64 x.f1,.int .i64 x.f2,.int .i64 y] (fun _=>True) (fun _=>False) rfl rfl (k45_mkM _ _ _ (⟨x.f0,x.f1,x.f2,y⟩:S45)) (fun _ h=>h.elim) (fun _ _=>trivial) HO.out J3.out.base.below J3.out.base.below.size HTL2.out ?_;intro v9 w9 ho9 hb9 hg9 hat9;obtain ⟨A29,k29,rfl⟩:=Kd.R_slice ho9;have HK9:=KeepT.of_row HO.out hg9;have HT9:=HK9.blk HMM.out (by decide);have f0:=blk_frozen HT9 2;have f1:=(blk_cell HT9 2).trans rfl;have I14:=aK (J3.out.putR HK9 hb9 ho9);have MB14:=aK (blk_far (HK9.blk MB3.out (by decide)) HNE.out (.slice A29 (xs++[(⟨x.f0,x.f1,x.f2,y⟩:S45)]).length k29):(w9.setCell ⟨b6,2,none⟩ _).heap[b2]?=_);clear ho9 hb9 hg9 hat9 HT9 HK9 q0 q1 y0 y1 y2 y3)
      have hlen1:(xs++[(⟨x.f0,x.f1,x.f2,y⟩:S45)]).length=xs.length+1:=by simp
      rw [hlen1] at MB14
      have I15:=I14.out
      rw [hlen1] at I15
      have I16:=aK I15
      have HBN:Aside0 (b''=(b && (rs.take (i+1)).all (okSR size sz))):=⟨by rw [HA.out,HOK.out,HBB.out,Bool.and_assoc]⟩
      clear I15 I14 f0 f1 hlen1 HA HBB HOK
      go_roundg (rs.length-(i+1))
      case measure=>omega
      case rel=>exact ⟨i+1,b'',by omega,by omega,rfl,by first|exact congrArg (Value.int .i64) HSTEP.out|go_num,HBN,⟨by rw [HMN.out,← HSX.out];exact I16.out⟩,MB14⟩
    ·have hlti : ¬ (i:Int)<(rs.length:Int):=by omega
     obtain rfl:i=rs.length:=by omega
     rw [List.take_length] at HBB J
     go_wp2
     go_meet
     case rel=>exact ⟨b',rfl,HBB,J⟩
  case rest =>
   clear J4 MB4
   obtain ⟨b',rfl,HBB,J5⟩:=hcut
   rw [← HBB.out] at HF3
   generalize rs.map (scaleR size sz)=rs2 at *
   cases b' with
   | false =>
    have HO:Aside0 (r=(0,[],[],17)):=⟨by rw [HF3.out,if_neg (by decide)]⟩
    have I9:=aK J5.out.base
    clear HF3 J5
    have q0:=blk_frozen I9.out.res 0
    have q1:=blk_frozen I9.out.res 1
    have q2:=blk_frozen I9.out.res 2
    have q3:=(blk_cell I9.out.res 0).trans rfl
    have q4:=(blk_cell I9.out.res 1).trans rfl
    have q5:=(blk_cell I9.out.res 2).trans rfl
    have X3:=aK (blk_put (blk_put (blk_put I9.out.res 0 (.int .i64 0) rfl) 1 (.slice none 0 0) rfl) 2 (.slice none 0 0) rfl)
    go_wp2
    refine bodyPost_ret (results_ct rfl _ _ b4 25 #[.int .i64 0,.slice none 0 0,.slice none 0 0] (0,0) _ rfl X3.out Tryz.underlying25 rfl (by kernel_rfl)) rfl ?_
    rw [HO.out]
    exact ⟨.slice none 0 0,.slice none 0 0,rfl,Kd.R_nil _ _ _ _ _,Kd.R_nil _ _ _ _ _,below_set (below_set (below_set I9.out.below I9.out.le) I9.out.le) I9.out.le⟩
   | true =>
    have HO:Aside0 (r=(size,cs2,rs2,0)):=⟨by rw [HF3.out,if_pos rfl]⟩
    clear HF3
    obtain ⟨v1,v2,hm,ho1,ho2⟩:=J5.out.met
    obtain ⟨A3,c3,rfl⟩:=Kd.R_slice ho1
    obtain ⟨A4,c4,rfl⟩:=Kd.R_slice ho2
    have O1:=aK ho1
    have O2:=aK ho2
    have RB:=aK J5.out.base
    have g0:=(blk_cell hm 0).trans rfl
    have g1:=(blk_cell hm 1).trans rfl
    have g2:=(blk_cell hm 2).trans rfl
    clear hm ho1 ho2
    have q0:=blk_frozen RB.out.res 0
    have q1:=blk_frozen RB.out.res 1
    have q2:=blk_frozen RB.out.res 2
    have q3:=(blk_cell RB.out.res 0).trans rfl
    have q4:=(blk_cell RB.out.res 1).trans rfl
    have q5:=(blk_cell RB.out.res 2).trans rfl
    have X1:=aK (blk_put RB.out.res 0 (.int .i64 size) rfl)
    have X2:=aK (blk_put X1.out 1 (.slice A3 (cs2).length c3) rfl)
    have X3:=aK (blk_put X2.out 2 (.slice A4 (rs2).length c4) rfl)
    go_wp2
    refine bodyPost_ret (results_ct rfl _ _ b4 25 #[.int .i64 size,.slice A3 (cs2).length c3,.slice A4 (rs2).length c4] (0,0) _ rfl X3.out Tryz.underlying25 rfl (by kernel_rfl)) rfl ?_
    rw [HO.out]
    exact ⟨.slice A3 (cs2).length c3, .slice A4 (rs2).length c4, rfl,
     Kd.R_set (Kd.R_set (Kd.R_set O1.out RB.out.res (fun q hq=>by rw [opq50 q hq];decide) 0 _) X1.out (fun q hq=>by rw [opq50 q hq];decide) 1 _) X2.out (fun q hq=>by rw [opq50 q hq];decide) 2 _,
     Kd.R_set (Kd.R_set (Kd.R_set O2.out RB.out.res (fun q hq=>by rw [opq45 q hq];decide) 0 _) X1.out (fun q hq=>by rw [opq45 q hq];decide) 1 _) X2.out (fun q hq=>by rw [opq45 q hq];decide) 2 _,
     below_set (below_set (below_set RB.out.below RB.out.le) RB.out.le) RB.out.le⟩
end Go.Proofs.YtoemkemmiikhlaaGreat.PF2
