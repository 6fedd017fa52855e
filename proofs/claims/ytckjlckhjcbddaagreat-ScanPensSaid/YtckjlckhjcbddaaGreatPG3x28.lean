import Derived.Test.YtckjlckhjcbddaaGreatPG3x0
import Derived.Test.YtckjlckhjcbddaaGreatPG3x4
import Derived.Test.YtckjlckhjcbddaaGreatPG3x6
import Derived.Test.YtckjlckhjcbddaaGreatPG3x20
import Derived.Test.YtckjlckhjcbddaaGreatPG3x27
namespace Go.Proofs.YtckjlckhjcbddaaGreat.PG3
open Go.RowKit Go.Proofs.YtckjlckhjcbddaaGreatW.PrintWords Go.Proofs.YtckjlckhjcbddaaGreatW.PrintLast Go.Proofs.YtckjlckhjcbddaaGreatW.PrintMore
attribute [local go_sem] max2_int min2_int max_two min_two max_three min_three max_four min_four
set_option linter.unusedVariables false
set_option linter.unusedSimpArgs false
attribute [local go_sem high] eqIn_pt
def turnV (a b p:S47):Int:=(fleuronref17_Turn.f a.f0 a.f1 b.f0 b.f1 p.f0 p.f1).getD 0
theorem turn_some (a b p:S47):fleuronref17_Turn.f a.f0 a.f1 b.f0 b.f1 p.f0 p.f1=some (turnV a b p):=by
 unfold turnV fleuronref17_Turn.f fleuronref17_sign.f
 (repeat' split) <;> rfl
theorem grown_refl (W:World) (r:Option Nat):W.grownBy W r:=⟨rfl,rfl,rfl,Nat.le_refl _,fun _ _ _=>rfl⟩
theorem grown_below {W V V':World} {r:Option Nat} (h:W.grownBy V r) (hb:Below V.heap.size V V'):W.grownBy V' r :=
 ⟨hb.os.trans h.os,hb.tape.trans h.tape,hb.output.trans h.output,Nat.le_trans h.size hb.size,fun k hk hne=>(hb.block k (Nat.lt_of_lt_of_le hk h.size)).trans (h.block k hk hne)⟩
theorem grown_cell {W V:World} {b:Nat} (h:W.grownBy V (some b)) (j:Nat) (u:Value):W.grownBy (V.setCell ⟨b,j,none⟩ u) (some b) :=
 ⟨h.os,h.tape,h.output,by have:=h.size;simpa [World.setCell] using this,fun k hk hne=>(Below.heap_setCell V ⟨b,j,none⟩ u k (fun e=>hne (by rw [e]))).trans (h.block k hk hne)⟩
def beforeB (a b:S47):Bool:=decide (a.f0<b.f0) || (a.f0 == b.f0 && decide (a.f1<b.f1))
theorem before_is (a b:S47):fleuronref18_before.f a.f0 a.f1 b.f0 b.f1=some (beforeB a b):=by
 unfold fleuronref18_before.f beforeB
 by_cases h:a.f0<b.f0
 ·rw [if_pos h,decide_eq_true h];rfl
 ·rw [if_neg h,decide_eq_false h]
  by_cases h2:a.f0=b.f0
  ·rw [if_pos h2,beq_iff_eq.mpr h2];rfl
  ·rw [if_neg h2,beq_eq_false_iff_ne.mpr h2];rfl
def farD (a b:S47):Int:=wrap64 (wrap64 (wrap64 (a.f0-b.f0)*wrap64 (a.f0-b.f0))+wrap64 (wrap64 (a.f1-b.f1)*wrap64 (a.f1-b.f1)))
theorem far_is (a b:S47):fleuronref18_far.f a.f0 a.f1 b.f0 b.f1=some (farD a b):=rfl
def firstAt (l:List S47):Nat→S47
 | 0=>rd_T47 l 0
 | i+1=>if beforeB (rd_T47 l (i:Int)) (firstAt l i) then rd_T47 l (i:Int) else firstAt l i
def stepB (a t p:S47):S47:=if eqP p a then t else if eqP t a || (decide (turnV a t p<0) || (turnV a t p == 0 && decide (farD a t<farD a p))) then p else t
def toAt (l:List S47) (a:S47):Nat→S47
 | 0=>a
 | i+1=>stepB a (toAt l a i) (rd_T47 l (i:Int))
def roundGo (l:List S47) (f:S47):Nat→S47→List S47→Option (List S47)
 | 0,_,_=>none
 | k+1,a,out=>if eqP (toAt l a l.length) f || eqP (toAt l a l.length) a then some out else roundGo l f k (toAt l a l.length) (out++[toAt l a l.length])
def fleuronref18_Round.f (l0:List S47):Option (List S47):=if 1≤l0.length∧l0.length≤1000000 then roundGo l0 (firstAt l0 l0.length) (l0.length+5) (firstAt l0 l0.length) [firstAt l0 l0.length] else none
set_option maxHeartbeats 8000000 in
set_option maxRecDepth 100000 in
theorem fleuronref18_Round.calls (A0:Option Addr) (c0:Nat) (l0:List S47) (r:List S47) (w:World) (hr0:Kd.C k47 w A0 l0.length l0) (hc0:l0.length≤c0) (h:fleuronref18_Round.f l0=some r) :
  Calls Tryz.prog 109 #[.slice A0 l0.length c0] w fun e w'=>∃ v0_:Value,e = .returned v0_∧Kd.R k47 47 w' w.heap.size (fun _=>True) v0_ r∧Below w.heap.size w w':=by
 have hu:=Tryz.underlying47
 unfold fleuronref18_Round.f at h
 by_cases hl:1≤l0.length∧l0.length≤1000000
 case neg=>rw [if_neg hl] at h;cases h
 rw [if_pos hl] at h
 have HX:=aK h
 have HL:=aK hl
 have HR0:=aK hr0
 have h0i:(0:Int)<(l0.length:Int):=by omega
 have h0n:0<l0.length:=by omega
 have hne : ¬ (l0=[]):=by rintro rfl;simp at h0n
 obtain ⟨ad,rfl,hx0,hx1⟩:=at_T47 hr0 0 (by omega) h0i
 have q0:w.cell? ad=some (.int .i64 (rd_T47 l0 0).f0):=hx0
 have q1:w.cell? ⟨ad.block,ad.off+1,none⟩=some (.int .i64 (rd_T47 l0 0).f1):=hx1
 clear h hl hr0 hx0 hx1
 go_enter Tryz.func109,Tryz.ntmps109
 go_wp2
 go_loopg [17] l0.length (fun gg s17 wr=>∃ kk:Nat,kk≤l0.length∧l0.length≤gg+kk∧s17 = .int .i64 kk∧Aside0 (Below w.heap.size w wr)∧Aside0 (wr.heap[w.heap.size]?=some (.cells #[.int .i64 (firstAt l0 kk).f0,.int .i64 (firstAt l0 kk).f1] 47 (0,0))))
 case atStart=>exact ⟨0,by omega,by omega,rfl,⟨below_alloc (Below.refl w.heap.size w) _⟩,⟨blk_new w _⟩⟩
 case round =>
  obtain ⟨kk,hkk,hg,rfl,HB,BF⟩:=hrel
  by_cases hlt:kk<l0.length
  ·have hlti:(kk:Int)<(l0.length:Int):=by omega
   have hk0:0≤(kk:Int):=by omega
   obtain ⟨ad',e',hy0,hy1⟩:=at_T47 HR0.out (kk:Int) hk0 hlti
   obtain rfl:ad=ad':=by injection e'
   simp only [Int.toNat_natCast] at hy0 hy1
   have p0:=(HB.out.cell (World.block_lt_of_cell? w _ hy0)).trans hy0
   have p1:=(HB.out.cell (World.block_lt_of_cell? w _ hy1)).trans hy1
   have hfa:firstAt l0 (kk+1)=if beforeB (rd_T47 l0 (kk:Int)) (firstAt l0 kk) then rd_T47 l0 (kk:Int) else firstAt l0 kk:=rfl
   generalize rd_T47 l0 (kk:Int)=x at *
   generalize firstAt l0 kk=y at *
   have hbc:=fun V=>fleuronref18_before.calls x.f0 x.f1 y.f0 y.f1 _ V (before_is x y)
   have V0:=blk_alloc BF.out (.cells #[.int .i64 x.f0,.int .i64 x.f1] 47)
   have X0:=blk_new wr (.cells #[.int .i64 x.f0,.int .i64 x.f1] 47)
   have f0:=(blk_cell V0 0).trans rfl
   have f1:=(blk_cell V0 1).trans rfl
   have BA:=aK (below_alloc HB.out (.cells #[.int .i64 x.f0,.int .i64 x.f1] 47))
   have V0:=aK V0
   have X0:=aK X0
   have HBC:=aK hbc
   have hwj:wrap64 ((kk:Int)+1)=((kk+1:Nat):Int):=by have:=HL.out;unfold wrap64;omega
   have HW:=aK hwj
   have HFA:=aK hfa
   clear hy0 hy1 e' hbc hfa hwj
   go_wp2_with fail
   refine (HBC.out _).mono ?_
   rintro e W1 ⟨rfl,hb1⟩
   have V1:=blk_below V0.out hb1
   have X1:=blk_below X0.out hb1
   have B1:=aK (below_step BA.out hb1)
   clear hb1 f0 f1
   cases hbb:beforeB x y with
   | true =>
    have x0:=(blk_cell X1 0).trans rfl
    have x1:=(blk_cell X1 1).trans rfl
    have f0:=(blk_cell V1 0).trans rfl
    have g0:=blk_frozen V1 0
    have V2:=blk_set V1 0 (.int .i64 x.f0)
    have f1:=(blk_cell V2 1).trans rfl
    have g1:=blk_frozen V2 1
    have V3:=aK (blk_set V2 1 (.int .i64 x.f1))
    have HF:=aK (show firstAt l0 (kk+1)=x by rw [HFA.out,hbb];rfl)
    clear V1 X1 V2
    go_wp2
    go_roundg (l0.length-(kk+1))
    case measure=>omega
    case rel=>exact ⟨kk+1,by omega,by omega,congrArg (Value.int .i64) HW.out,⟨below_set (below_set B1.out (Nat.le_refl _)) (Nat.le_refl _)⟩,⟨by rw [HF.out];exact V3.out⟩⟩
   | false =>
    have V3:=aK V1
    have HF:=aK (show firstAt l0 (kk+1)=y by rw [HFA.out,hbb];rfl)
    clear V1 X1
    go_wp2
    go_roundg (l0.length-(kk+1))
    case measure=>omega
    case rel=>exact ⟨kk+1,by omega,by omega,congrArg (Value.int .i64) HW.out,B1,⟨by rw [HF.out];exact V3.out⟩⟩
  ·have hlti : ¬ (kk:Int)<(l0.length:Int):=by omega
   obtain rfl:kk=l0.length:=by omega
   generalize firstAt l0 l0.length=f at *
   have f0:=(blk_cell BF.out 0).trans rfl
   have f1:=(blk_cell BF.out 1).trans rfl
   have BF2:=blk_alloc BF.out (.cells #[.int .i64 f.f0,.int .i64 f.f1] 47)
   have g0:=(blk_cell BF2 0).trans rfl
   have g1:=(blk_cell BF2 1).trans rfl
   clear BF2
   go_wp2
   --OUTER
   have hrow:=row_of_pts (base:=w.heap.size) (ok:=fun k=>k≠w.heap.size∧k≠wr.heap.size+1) (cap:=1) (d:=[f]) (blk_alloc (blk_new wr (.cells #[.int .i64 f.f0,.int .i64 f.f1] 47)) (.cells #[.int .i64 f.f0,.int .i64 f.f1] 47)) (pts1 f) HB.out.size (by have:=blk_lt BF.out;omega) (by simp) (by omega) rfl
   have HROW:=aK hrow
   have K1:=blk_new (wr.alloc (.cells #[.int .i64 f.f0,.int .i64 f.f1] 47)) (.cells #[.int .i64 f.f0,.int .i64 f.f1] 47)
   simp only [World.size_alloc] at K1
   have K1:=aK K1
   have K2:=aK (blk_alloc (blk_alloc BF.out (.cells #[.int .i64 f.f0,.int .i64 f.f1] 47)) (.cells #[.int .i64 f.f0,.int .i64 f.f1] 47))
   have KB:=aK (below_alloc (below_alloc HB.out (.cells #[.int .i64 f.f0,.int .i64 f.f1] 47)) (.cells #[.int .i64 f.f0,.int .i64 f.f1] 47))
   have HSZ:=aK HB.out.size
   clear hrow f0 f1 g0 g1 HB BF
   go_loopg [6,7] (l0.length+5) (fun gg s6 s7 wr=>∃ (v6:Value) (out:List S47) (a:S47) (ba:Nat),s6=v6∧s7 = .pointer (some ⟨ba,0,none⟩)∧Aside0 (roundGo l0 f gg a out=some r)∧Aside0 (out.length+gg≤3000000)∧Aside0 (Kd.R k47 47 wr w.heap.size (fun k=>k≠w.heap.size∧k≠ba) v6 out)∧Aside0 (wr.heap[ba]?=some (.cells #[.int .i64 a.f0,.int .i64 a.f1] 47 (0,0)))∧Aside0 (wr.heap[w.heap.size]?=some (.cells #[.int .i64 f.f0,.int .i64 f.f1] 47 (0,0)))∧Aside0 (Below w.heap.size w wr)∧Aside0 (w.heap.size≤ba∧w.heap.size≠ba))
   case atStart=>exact ⟨_,[f],f,wr.heap.size+1,rfl,rfl,HX,⟨by have:=HL.out;simp;omega⟩,HROW,K1,K2,KB,⟨by have:=HSZ.out;omega⟩⟩
   case round =>
    clear HX HROW K1 K2 KB
    obtain ⟨v6,out,a,ba,rfl,rfl,HA,HN,HRO,BA,BF,HB,HBA⟩:=hrel
    obtain ⟨A6,c6,rfl⟩:=Kd.R_slice HRO.out
    cases gk with
    | zero=>exact absurd HA.out (by simp [roundGo])
    | succ gk' =>
    have a0:=(blk_cell BA.out 0).trans rfl
    have a1:=(blk_cell BA.out 1).trans rfl
    obtain ⟨wo,hwo⟩ : ∃ wo:World,wo=wr:=⟨_,rfl⟩
    subst hwo
    go_wp2
    go_loopg [32] l0.length (fun gg s32 wr=>∃ kk:Nat,kk≤l0.length∧l0.length≤gg+kk∧s32 = .int .i64 kk∧Aside0 ((wo.alloc (.cells #[.int .i64 a.f0,.int .i64 a.f1] 47)).grownBy wr (some wo.heap.size))∧Aside0 (wr.heap[wo.heap.size]?=some (.cells #[.int .i64 (toAt l0 a kk).f0,.int .i64 (toAt l0 a kk).f1] 47 (0,0))))
    case atStart=>exact ⟨0,by omega,by omega,rfl,⟨grown_refl _ _⟩,⟨blk_new wo _⟩⟩
    case round =>
     obtain ⟨kk,hkk,hg,rfl,HG,BT⟩:=hrel
     have hbi:=blk_grown (blk_alloc BA.out (.cells #[.int .i64 a.f0,.int .i64 a.f1] 47)) HG.out (by have:=blk_lt BA.out;simp;omega)
     have hBi:=(below_alloc HB.out (.cells #[.int .i64 a.f0,.int .i64 a.f1] 47)).grown HG.out (by have:=HB.out.size;simp;omega) (fun k hk=>by injection hk with hk;have:=HB.out.size;omega)
     have BAi:=aK hbi
     have HBi:=aK hBi
     clear hbi hBi
     by_cases hlt:kk<l0.length
     ·have hlti:(kk:Int)<(l0.length:Int):=by omega
      have hk0:0≤(kk:Int):=by omega
      obtain ⟨ad',e',hy0,hy1⟩:=at_T47 HR0.out (kk:Int) hk0 hlti
      obtain rfl:ad=ad':=by injection e'
      simp only [Int.toNat_natCast] at hy0 hy1
      have p0:=(HBi.out.cell (World.block_lt_of_cell? w _ hy0)).trans hy0
      have p1:=(HBi.out.cell (World.block_lt_of_cell? w _ hy1)).trans hy1
      have hta:toAt l0 a (kk+1)=stepB a (toAt l0 a kk) (rd_T47 l0 (kk:Int)):=rfl
      generalize rd_T47 l0 (kk:Int)=x at *
      generalize toAt l0 a kk=y at *
      have hwj:wrap64 ((kk:Int)+1)=((kk+1:Nat):Int):=by have:=HL.out;unfold wrap64;omega
      have HW:=aK hwj
      have HTA:=aK hta
      have A0:=blk_alloc BAi.out (.cells #[.int .i64 x.f0,.int .i64 x.f1] 47)
      have Y0:=blk_alloc BT.out (.cells #[.int .i64 x.f0,.int .i64 x.f1] 47)
      have X0:=blk_new wr (.cells #[.int .i64 x.f0,.int .i64 x.f1] 47)
      have a0:=(blk_cell A0 0).trans rfl
      have a1:=(blk_cell A0 1).trans rfl
      have y0:=(blk_cell Y0 0).trans rfl
      have y1:=(blk_cell Y0 1).trans rfl
      have G0:=aK (grown_below HG.out (below_alloc (Below.refl wr.heap.size wr) (.cells #[.int .i64 x.f0,.int .i64 x.f1] 47)))
      have htc:=fun V=>fleuronref17_Turn.calls a.f0 a.f1 y.f0 y.f1 x.f0 x.f1 _ V (turn_some a y x)
      have HTC:=aK htc
      have A0:=aK A0
      have Y0:=aK Y0
      have X0:=aK X0
      clear hy0 hy1 e' hta hwj htc
      cases hpa:(x.f0 == a.f0 && (x.f1 == a.f1)) with
      | true =>
       have HP:=aK (show eqP x a=true from hpa)
       have HTO:=aK (show toAt l0 a (kk+1)=y by rw [HTA.out];unfold stepB;rw [if_pos HP.out])
       have V3:=aK Y0.out
       go_wp2
       go_roundg (l0.length-(kk+1))
       case measure=>omega
       case rel=>exact ⟨kk+1,by omega,by omega,congrArg (Value.int .i64) HW.out,⟨G0.out⟩,⟨by rw [HTO.out];exact V3.out⟩⟩
      | false =>
       have HP:=aK (show ¬ (eqP x a=true) by rw [show eqP x a=false from hpa];simp)
       go_wp2_with fail
       refine (HTC.out _).mono ?_
       rintro e W1 ⟨rfl,hb1⟩
       have A1:=aK (blk_below A0.out hb1)
       have Y1:=aK (blk_below Y0.out hb1)
       have X1:=aK (blk_below X0.out hb1)
       have G1:=aK (grown_below G0.out hb1)
       have D0:=aK ((blk_cell (blk_drew A1.out) 0).trans rfl)
       have D1:=aK ((blk_cell (blk_drew A1.out) 1).trans rfl)
       have D2:=aK ((blk_cell (blk_drew Y1.out) 0).trans rfl)
       have D3:=aK ((blk_cell (blk_drew Y1.out) 1).trans rfl)
       have D4:=aK ((blk_cell (blk_drew X1.out) 0).trans rfl)
       have D5:=aK ((blk_cell (blk_drew X1.out) 1).trans rfl)
       have YD:=aK (blk_drew Y1.out)
       have XD:=aK (blk_drew X1.out)
       have GD:=aK (grown_below G1.out (below_drew1 (Below.refl W1.heap.size W1)))
       clear hb1 a0 a1 y0 y1 A0 Y0 X0 G0
       cases hya:(y.f0 == a.f0 && (y.f1 == a.f1)) with
       | true =>
        have HY:=aK (show eqP y a=true from hya)
        go_wp2
        refine start_ (n:=20) (S:=fun w'=>w'.cell? ⟨ba,0,none⟩=some (.int .i64 a.f0)∧w'.cell? ⟨ba,1,none⟩=some (.int .i64 a.f1)∧w'.cell? ⟨wo.heap.size,0,none⟩=some (.int .i64 y.f0)∧w'.cell? ⟨wo.heap.size,1,none⟩=some (.int .i64 y.f1)∧w'.cell? ⟨wr.heap.size,0,none⟩=some (.int .i64 x.f0)∧w'.cell? ⟨wr.heap.size,1,none⟩=some (.int .i64 x.f1)) (ds:=[]) #[false,false,false,false,false,false,false,false,false,false,false,false,false,false,false,false,false,false,false,false] (by kernel_rfl) rfl rfl ⟨D0.out,D1.out,D2.out,D3.out,D4.out,D5.out⟩ (fun hHeld=>?_)
        refine take_ (i:=0) (N:=some 43) (v:=?_) (a':=?_) #[true,false,false,false,false,false,false,false,false,false,false,false,false,false,false,false,false,false,false,false] rfl rfl (by kernel_rfl) (fun _ _ _ h=>h) (Or.inl ⟨by rfl,?_⟩) hHeld ?_ ?_
        rotate_left
        ·rintro w' ⟨s0,s1,s2,s3,s4,s5⟩
         go_simp
         with_reducible rfl
        rotate_left
        ·simp only [Act.put,lS,i64_w,i32_w]
         rfl
        refine take_ (i:=1) (N:=some 44) (v:=?_) (a':=?_) #[true,true,false,false,false,false,false,false,false,false,false,false,false,false,false,false,false,false,false,false] rfl rfl (by kernel_rfl) (fun _ _ _ h=>h) (Or.inl ⟨by rfl,?_⟩) hHeld ?_ ?_
        rotate_left
        ·rintro w' ⟨s0,s1,s2,s3,s4,s5⟩
         go_simp
         with_reducible rfl
        rotate_left
        ·simp only [Act.put,lS,i64_w,i32_w]
         rfl
        refine pure_ (i:=2) (N:=some 45) (v:=?_) (a':=?_) #[true,true,true,false,false,false,false,false,false,false,false,false,false,false,false,false,false,false,false,false] rfl rfl (by kernel_rfl) (fun _ _ _ h=>h) (Or.inl ⟨by rfl,?_⟩) ?_ ?_
        rotate_left
        ·intro w'
         go_simp
         with_reducible rfl
        rotate_left
        ·simp only [Act.put,lS,i64_w,i32_w]
         rfl
        refine pure_ (i:=3) (N:=some 46) (v:=?_) (a':=?_) #[true,true,true,true,false,false,false,false,false,false,false,false,false,false,false,false,false,false,false,false] rfl rfl (by kernel_rfl) (fun _ _ _ h=>h) (Or.inl ⟨by rfl,?_⟩) ?_ ?_
        rotate_left
        ·intro w'
         go_simp
         with_reducible rfl
        rotate_left
        ·simp only [Act.put,lS,i64_w,i32_w]
         rfl
        refine pure_ (i:=4) (N:=some 47) (v:=undef) (a':=?_) #[true,true,true,true,true,false,false,false,false,false,false,false,false,false,false,false,false,false,false,false] rfl rfl (by kernel_rfl) (fun _ _ _ h=>h) (Or.inr ⟨by rfl,rfl⟩) ?_ ?_
        rotate_left
        ·simp only [Act.put,lS,i64_w,i32_w]
         rfl
        refine pure_ (i:=5) (N:=some 48) (v:=undef) (a':=?_) #[true,true,true,true,true,true,false,false,false,false,false,false,false,false,false,false,false,false,false,false] rfl rfl (by kernel_rfl) (fun _ _ _ h=>h) (Or.inr ⟨by rfl,rfl⟩) ?_ ?_
        rotate_left
        ·simp only [Act.put,lS,i64_w,i32_w]
         rfl
        refine pure_ (i:=6) (N:=some 49) (v:=?_) (a':=?_) #[true,true,true,true,true,true,true,false,false,false,false,false,false,false,false,false,false,false,false,false] rfl rfl (by kernel_rfl) (fun _ _ _ h=>h) (Or.inl ⟨by rfl,?_⟩) ?_ ?_
        rotate_left
        ·intro w'
         go_simp
         with_reducible rfl
        rotate_left
        ·simp only [Act.put,lS,i64_w,i32_w]
         rfl
        refine pure_ (i:=7) (N:=some 50) (v:=?_) (a':=?_) #[true,true,true,true,true,true,true,true,false,false,false,false,false,false,false,false,false,false,false,false] rfl rfl (by kernel_rfl) (fun _ _ _ h=>h) (Or.inl ⟨by rfl,?_⟩) ?_ ?_
        rotate_left
        ·intro w'
         go_simp
         with_reducible rfl
        rotate_left
        ·simp only [Act.put,lS,i64_w,i32_w]
         rfl
        refine pure_ (i:=8) (N:=some 51) (v:=undef) (a':=?_) #[true,true,true,true,true,true,true,true,true,false,false,false,false,false,false,false,false,false,false,false] rfl rfl (by kernel_rfl) (fun _ _ _ h=>h) (Or.inr ⟨by rfl,rfl⟩) ?_ ?_
        rotate_left
        ·simp only [Act.put,lS,i64_w,i32_w]
         rfl
        refine pure_ (i:=9) (N:=some 52) (v:=undef) (a':=?_) #[true,true,true,true,true,true,true,true,true,true,false,false,false,false,false,false,false,false,false,false] rfl rfl (by kernel_rfl) (fun _ _ _ h=>h) (Or.inr ⟨by rfl,rfl⟩) ?_ ?_
        rotate_left
        ·simp only [Act.put,lS,i64_w,i32_w]
         rfl
        refine pure_ (i:=10) (N:=some 53) (v:=undef) (a':=?_) #[true,true,true,true,true,true,true,true,true,true,true,false,false,false,false,false,false,false,false,false] rfl rfl (by kernel_rfl) (fun _ _ _ h=>h) (Or.inr ⟨by rfl,rfl⟩) ?_ ?_
        rotate_left
        ·simp only [Act.put,lS,i64_w,i32_w]
         rfl
        refine pure_ (i:=11) (N:=some 54) (v:=undef) (a':=?_) #[true,true,true,true,true,true,true,true,true,true,true,true,false,false,false,false,false,false,false,false] rfl rfl (by kernel_rfl) (fun _ _ _ h=>h) (Or.inr ⟨by rfl,rfl⟩) ?_ ?_
        rotate_left
        ·simp only [Act.put,lS,i64_w,i32_w]
         rfl
        refine pure_ (i:=12) (N:=some 55) (v:=undef) (a':=?_) #[true,true,true,true,true,true,true,true,true,true,true,true,true,false,false,false,false,false,false,false] rfl rfl (by kernel_rfl) (fun _ _ _ h=>h) (Or.inr ⟨by rfl,rfl⟩) ?_ ?_
        rotate_left
        ·simp only [Act.put,lS,i64_w,i32_w]
         rfl
        refine pure_ (i:=13) (N:=some 56) (v:=undef) (a':=?_) #[true,true,true,true,true,true,true,true,true,true,true,true,true,true,false,false,false,false,false,false] rfl rfl (by kernel_rfl) (fun _ _ _ h=>h) (Or.inr ⟨by rfl,rfl⟩) ?_ ?_
        rotate_left
        ·simp only [Act.put,lS,i64_w,i32_w]
         rfl
        refine pure_ (i:=14) (N:=some 57) (v:=undef) (a':=?_) #[true,true,true,true,true,true,true,true,true,true,true,true,true,true,true,false,false,false,false,false] rfl rfl (by kernel_rfl) (fun _ _ _ h=>h) (Or.inr ⟨by rfl,rfl⟩) ?_ ?_
        rotate_left
        ·simp only [Act.put,lS,i64_w,i32_w]
         rfl
        refine pure_ (i:=15) (N:=some 58) (v:=undef) (a':=?_) #[true,true,true,true,true,true,true,true,true,true,true,true,true,true,true,true,false,false,false,false] rfl rfl (by kernel_rfl) (fun _ _ _ h=>h) (Or.inr ⟨by rfl,rfl⟩) ?_ ?_
        rotate_left
        ·simp only [Act.put,lS,i64_w,i32_w]
         rfl
        refine pure_ (i:=16) (N:=some 59) (v:=undef) (a':=?_) #[true,true,true,true,true,true,true,true,true,true,true,true,true,true,true,true,true,false,false,false] rfl rfl (by kernel_rfl) (fun _ _ _ h=>h) (Or.inr ⟨by rfl,rfl⟩) ?_ ?_
        rotate_left
        ·simp only [Act.put,lS,i64_w,i32_w]
         rfl
        refine pure_ (i:=17) (N:=some 60) (v:=undef) (a':=?_) #[true,true,true,true,true,true,true,true,true,true,true,true,true,true,true,true,true,true,false,false] rfl rfl (by kernel_rfl) (fun _ _ _ h=>h) (Or.inr ⟨by rfl,rfl⟩) ?_ ?_
        rotate_left
        ·simp only [Act.put,lS,i64_w,i32_w]
         rfl
        refine pure_ (i:=18) (N:=some 61) (v:=undef) (a':=?_) #[true,true,true,true,true,true,true,true,true,true,true,true,true,true,true,true,true,true,true,false] rfl rfl (by kernel_rfl) (fun _ _ _ h=>h) (Or.inr ⟨by rfl,rfl⟩) ?_ ?_
        rotate_left
        ·simp only [Act.put,lS,i64_w,i32_w]
         rfl
        refine pure_ (i:=19) (N:=some 62) (v:=?_) (a':=?_) #[true,true,true,true,true,true,true,true,true,true,true,true,true,true,true,true,true,true,true,true] rfl rfl (by kernel_rfl) (fun _ _ _ h=>h) (Or.inl ⟨by rfl,?_⟩) ?_ ?_
        rotate_left
        ·intro w'
         go_simp
         with_reducible rfl
        rotate_left
        ·simp only [Act.put,lS,i64_w,i32_w]
         rfl
        refine done_ (by kernel_rfl) ?_
        have HTO:=aK (show toAt l0 a (kk+1)=x by rw [HTA.out];unfold stepB;rw [if_neg HP.out,HY.out];rfl)
        have V1:=Y1.out
        have s0:=(show W1.drew.cell? ⟨wo.heap.size,0,none⟩=_ from (blk_cell V1 0).trans rfl)
        have z0:=(show W1.drew.frozen? ⟨wo.heap.size,0,none⟩=_ from blk_frozen V1 0)
        have s1:=(show W1.drew.cell? ⟨wo.heap.size,1,none⟩=_ from (blk_cell V1 1).trans rfl)
        have z1:=(show W1.drew.frozen? ⟨wo.heap.size,1,none⟩=_ from blk_frozen V1 1)
        have V2:=blk_set V1 0 (.int .i64 x.f0)
        have s2:=(show (W1.setCell ⟨wo.heap.size,0,none⟩ (.int .i64 x.f0)).drew.cell? ⟨wo.heap.size,1,none⟩=_ from (blk_cell V2 1).trans rfl)
        have z2:=(show (W1.setCell ⟨wo.heap.size,0,none⟩ (.int .i64 x.f0)).drew.frozen? ⟨wo.heap.size,1,none⟩=_ from blk_frozen V2 1)
        have V3:=aK (blk_drew (blk_set V2 1 (.int .i64 x.f1)))
        have GZ:=aK (grown_below (grown_cell (grown_cell G1.out 0 (.int .i64 x.f0)) 1 (.int .i64 x.f1)) (below_drew1 (Below.refl _ _)))
        clear V1 V2
        have x0:=(blk_cell XD.out 0).trans rfl
        have x1:=(blk_cell XD.out 1).trans rfl
        go_wp2
        go_roundg (l0.length-(kk+1))
        case measure=>omega
        case rel=>exact ⟨kk+1,by omega,by omega,congrArg (Value.int .i64) HW.out,GZ,⟨by rw [HTO.out];exact V3.out⟩⟩
       | false =>
        have HY:=aK (show eqP y a=false from hya)
        cases htv:decide (turnV a y x<0) with
        | true =>
         have HT:=aK htv
         have HTO:=aK (show toAt l0 a (kk+1)=x by rw [HTA.out];unfold stepB;rw [if_neg HP.out,HY.out,HT.out];rfl)
         generalize turnV a y x=tv at *
         go_wp2
         refine start_ (n:=20) (S:=fun w'=>w'.cell? ⟨ba,0,none⟩=some (.int .i64 a.f0)∧w'.cell? ⟨ba,1,none⟩=some (.int .i64 a.f1)∧w'.cell? ⟨wo.heap.size,0,none⟩=some (.int .i64 y.f0)∧w'.cell? ⟨wo.heap.size,1,none⟩=some (.int .i64 y.f1)∧w'.cell? ⟨wr.heap.size,0,none⟩=some (.int .i64 x.f0)∧w'.cell? ⟨wr.heap.size,1,none⟩=some (.int .i64 x.f1)) (ds:=[]) #[false,false,false,false,false,false,false,false,false,false,false,false,false,false,false,false,false,false,false,false] (by kernel_rfl) rfl rfl ⟨D0.out,D1.out,D2.out,D3.out,D4.out,D5.out⟩ (fun hHeld=>?_)
         refine take_ (i:=0) (N:=some 43) (v:=?_) (a':=?_) #[true,false,false,false,false,false,false,false,false,false,false,false,false,false,false,false,false,false,false,false] rfl rfl (by kernel_rfl) (fun _ _ _ h=>h) (Or.inl ⟨by rfl,?_⟩) hHeld ?_ ?_
         rotate_left
         ·rintro w' ⟨s0,s1,s2,s3,s4,s5⟩
          go_simp
          with_reducible rfl
         rotate_left
         ·simp only [Act.put,lS,i64_w,i32_w]
          rfl
         refine take_ (i:=1) (N:=some 44) (v:=?_) (a':=?_) #[true,true,false,false,false,false,false,false,false,false,false,false,false,false,false,false,false,false,false,false] rfl rfl (by kernel_rfl) (fun _ _ _ h=>h) (Or.inl ⟨by rfl,?_⟩) hHeld ?_ ?_
         rotate_left
         ·rintro w' ⟨s0,s1,s2,s3,s4,s5⟩
          go_simp
          with_reducible rfl
         rotate_left
         ·simp only [Act.put,lS,i64_w,i32_w]
          rfl
         refine pure_ (i:=2) (N:=some 45) (v:=?_) (a':=?_) #[true,true,true,false,false,false,false,false,false,false,false,false,false,false,false,false,false,false,false,false] rfl rfl (by kernel_rfl) (fun _ _ _ h=>h) (Or.inl ⟨by rfl,?_⟩) ?_ ?_
         rotate_left
         ·intro w'
          go_simp
          with_reducible rfl
         rotate_left
         ·simp only [Act.put,lS,i64_w,i32_w]
          rfl
         refine pure_ (i:=3) (N:=some 46) (v:=?_) (a':=?_) #[true,true,true,true,false,false,false,false,false,false,false,false,false,false,false,false,false,false,false,false] rfl rfl (by kernel_rfl) (fun _ _ _ h=>h) (Or.inl ⟨by rfl,?_⟩) ?_ ?_
         rotate_left
         ·intro w'
          go_simp
          with_reducible rfl
         rotate_left
         ·simp only [Act.put,lS,i64_w,i32_w]
          rfl
         refine pure_ (i:=4) (N:=some 47) (v:=?_) (a':=?_) #[true,true,true,true,true,false,false,false,false,false,false,false,false,false,false,false,false,false,false,false] rfl rfl (by kernel_rfl) (fun _ _ _ h=>h) (Or.inl ⟨by rfl,?_⟩) ?_ ?_
         rotate_left
         ·intro w'
          go_simp
          with_reducible rfl
         rotate_left
         ·simp only [Act.put,lS,i64_w,i32_w]
          rfl
         refine pure_ (i:=5) (N:=some 48) (v:=?_) (a':=?_) #[true,true,true,true,true,true,false,false,false,false,false,false,false,false,false,false,false,false,false,false] rfl rfl (by kernel_rfl) (fun _ _ _ h=>h) (Or.inl ⟨by rfl,?_⟩) ?_ ?_
         rotate_left
         ·intro w'
          go_simp
          with_reducible rfl
         rotate_left
         ·simp only [Act.put,lS,i64_w,i32_w]
          rfl
         refine pure_ (i:=6) (N:=some 49) (v:=?_) (a':=?_) #[true,true,true,true,true,true,true,false,false,false,false,false,false,false,false,false,false,false,false,false] rfl rfl (by kernel_rfl) (fun _ _ _ h=>h) (Or.inl ⟨by rfl,?_⟩) ?_ ?_
         rotate_left
         ·intro w'
          go_simp
          with_reducible rfl
         rotate_left
         ·simp only [Act.put,lS,i64_w,i32_w]
          rfl
         refine pure_ (i:=7) (N:=some 50) (v:=?_) (a':=?_) #[true,true,true,true,true,true,true,true,false,false,false,false,false,false,false,false,false,false,false,false] rfl rfl (by kernel_rfl) (fun _ _ _ h=>h) (Or.inl ⟨by rfl,?_⟩) ?_ ?_
         rotate_left
         ·intro w'
          go_simp
          with_reducible rfl
         rotate_left
         ·simp only [Act.put,lS,i64_w,i32_w]
          rfl
         refine pure_ (i:=8) (N:=some 51) (v:=undef) (a':=?_) #[true,true,true,true,true,true,true,true,true,false,false,false,false,false,false,false,false,false,false,false] rfl rfl (by kernel_rfl) (fun _ _ _ h=>h) (Or.inr ⟨by rfl,rfl⟩) ?_ ?_
         rotate_left
         ·simp only [Act.put,lS,i64_w,i32_w]
          rfl
         refine pure_ (i:=9) (N:=some 52) (v:=undef) (a':=?_) #[true,true,true,true,true,true,true,true,true,true,false,false,false,false,false,false,false,false,false,false] rfl rfl (by kernel_rfl) (fun _ _ _ h=>h) (Or.inr ⟨by rfl,rfl⟩) ?_ ?_
         rotate_left
         ·simp only [Act.put,lS,i64_w,i32_w]
          rfl
         refine pure_ (i:=10) (N:=some 53) (v:=undef) (a':=?_) #[true,true,true,true,true,true,true,true,true,true,true,false,false,false,false,false,false,false,false,false] rfl rfl (by kernel_rfl) (fun _ _ _ h=>h) (Or.inr ⟨by rfl,rfl⟩) ?_ ?_
         rotate_left
         ·simp only [Act.put,lS,i64_w,i32_w]
          rfl
         refine pure_ (i:=11) (N:=some 54) (v:=undef) (a':=?_) #[true,true,true,true,true,true,true,true,true,true,true,true,false,false,false,false,false,false,false,false] rfl rfl (by kernel_rfl) (fun _ _ _ h=>h) (Or.inr ⟨by rfl,rfl⟩) ?_ ?_
         rotate_left
         ·simp only [Act.put,lS,i64_w,i32_w]
          rfl
         refine pure_ (i:=12) (N:=some 55) (v:=undef) (a':=?_) #[true,true,true,true,true,true,true,true,true,true,true,true,true,false,false,false,false,false,false,false] rfl rfl (by kernel_rfl) (fun _ _ _ h=>h) (Or.inr ⟨by rfl,rfl⟩) ?_ ?_
         rotate_left
         ·simp only [Act.put,lS,i64_w,i32_w]
          rfl
         refine pure_ (i:=13) (N:=some 56) (v:=undef) (a':=?_) #[true,true,true,true,true,true,true,true,true,true,true,true,true,true,false,false,false,false,false,false] rfl rfl (by kernel_rfl) (fun _ _ _ h=>h) (Or.inr ⟨by rfl,rfl⟩) ?_ ?_
         rotate_left
         ·simp only [Act.put,lS,i64_w,i32_w]
          rfl
         refine pure_ (i:=14) (N:=some 57) (v:=undef) (a':=?_) #[true,true,true,true,true,true,true,true,true,true,true,true,true,true,true,false,false,false,false,false] rfl rfl (by kernel_rfl) (fun _ _ _ h=>h) (Or.inr ⟨by rfl,rfl⟩) ?_ ?_
         rotate_left
         ·simp only [Act.put,lS,i64_w,i32_w]
          rfl
         refine pure_ (i:=15) (N:=some 58) (v:=undef) (a':=?_) #[true,true,true,true,true,true,true,true,true,true,true,true,true,true,true,true,false,false,false,false] rfl rfl (by kernel_rfl) (fun _ _ _ h=>h) (Or.inr ⟨by rfl,rfl⟩) ?_ ?_
         rotate_left
         ·simp only [Act.put,lS,i64_w,i32_w]
          rfl
         refine pure_ (i:=16) (N:=some 59) (v:=undef) (a':=?_) #[true,true,true,true,true,true,true,true,true,true,true,true,true,true,true,true,true,false,false,false] rfl rfl (by kernel_rfl) (fun _ _ _ h=>h) (Or.inr ⟨by rfl,rfl⟩) ?_ ?_
         rotate_left
         ·simp only [Act.put,lS,i64_w,i32_w]
          rfl
         refine pure_ (i:=17) (N:=some 60) (v:=undef) (a':=?_) #[true,true,true,true,true,true,true,true,true,true,true,true,true,true,true,true,true,true,false,false] rfl rfl (by kernel_rfl) (fun _ _ _ h=>h) (Or.inr ⟨by rfl,rfl⟩) ?_ ?_
         rotate_left
         ·simp only [Act.put,lS,i64_w,i32_w]
          rfl
         refine pure_ (i:=18) (N:=some 61) (v:=undef) (a':=?_) #[true,true,true,true,true,true,true,true,true,true,true,true,true,true,true,true,true,true,true,false] rfl rfl (by kernel_rfl) (fun _ _ _ h=>h) (Or.inr ⟨by rfl,rfl⟩) ?_ ?_
         rotate_left
         ·simp only [Act.put,lS,i64_w,i32_w]
          rfl
         refine pure_ (i:=19) (N:=some 62) (v:=?_) (a':=?_) #[true,true,true,true,true,true,true,true,true,true,true,true,true,true,true,true,true,true,true,true] rfl rfl (by kernel_rfl) (fun _ _ _ h=>h) (Or.inl ⟨by rfl,?_⟩) ?_ ?_
         rotate_left
         ·intro w'
          go_simp
          with_reducible rfl
         rotate_left
         ·simp only [Act.put,lS,i64_w,i32_w]
          rfl
         refine done_ (by kernel_rfl) ?_
         have V1:=Y1.out
         have s0:=(show W1.drew.cell? ⟨wo.heap.size,0,none⟩=_ from (blk_cell V1 0).trans rfl)
         have z0:=(show W1.drew.frozen? ⟨wo.heap.size,0,none⟩=_ from blk_frozen V1 0)
         have s1:=(show W1.drew.cell? ⟨wo.heap.size,1,none⟩=_ from (blk_cell V1 1).trans rfl)
         have z1:=(show W1.drew.frozen? ⟨wo.heap.size,1,none⟩=_ from blk_frozen V1 1)
         have V2:=blk_set V1 0 (.int .i64 x.f0)
         have s2:=(show (W1.setCell ⟨wo.heap.size,0,none⟩ (.int .i64 x.f0)).drew.cell? ⟨wo.heap.size,1,none⟩=_ from (blk_cell V2 1).trans rfl)
         have z2:=(show (W1.setCell ⟨wo.heap.size,0,none⟩ (.int .i64 x.f0)).drew.frozen? ⟨wo.heap.size,1,none⟩=_ from blk_frozen V2 1)
         have V3:=aK (blk_drew (blk_set V2 1 (.int .i64 x.f1)))
         have GZ:=aK (grown_below (grown_cell (grown_cell G1.out 0 (.int .i64 x.f0)) 1 (.int .i64 x.f1)) (below_drew1 (Below.refl _ _)))
         clear V1 V2
         have x0:=(blk_cell XD.out 0).trans rfl
         have x1:=(blk_cell XD.out 1).trans rfl
         go_wp2
         go_roundg (l0.length-(kk+1))
         case measure=>omega
         case rel=>exact ⟨kk+1,by omega,by omega,congrArg (Value.int .i64) HW.out,GZ,⟨by rw [HTO.out];exact V3.out⟩⟩
        | false =>
         have HT:=aK htv
         cases htz:(turnV a y x == 0) with
         | false =>
          have HZ:=aK htz
          go_wp2
          refine start_ (n:=20) (S:=fun w'=>w'.cell? ⟨ba,0,none⟩=some (.int .i64 a.f0)∧w'.cell? ⟨ba,1,none⟩=some (.int .i64 a.f1)∧w'.cell? ⟨wo.heap.size,0,none⟩=some (.int .i64 y.f0)∧w'.cell? ⟨wo.heap.size,1,none⟩=some (.int .i64 y.f1)∧w'.cell? ⟨wr.heap.size,0,none⟩=some (.int .i64 x.f0)∧w'.cell? ⟨wr.heap.size,1,none⟩=some (.int .i64 x.f1)) (ds:=[]) #[false,false,false,false,false,false,false,false,false,false,false,false,false,false,false,false,false,false,false,false] (by kernel_rfl) rfl rfl ⟨D0.out,D1.out,D2.out,D3.out,D4.out,D5.out⟩ (fun hHeld=>?_)
          refine take_ (i:=0) (N:=some 43) (v:=?_) (a':=?_) #[true,false,false,false,false,false,false,false,false,false,false,false,false,false,false,false,false,false,false,false] rfl rfl (by kernel_rfl) (fun _ _ _ h=>h) (Or.inl ⟨by rfl,?_⟩) hHeld ?_ ?_
          rotate_left
          ·rintro w' ⟨s0,s1,s2,s3,s4,s5⟩
           go_simp
           with_reducible rfl
          rotate_left
          ·simp only [Act.put,lS,i64_w,i32_w]
           rfl
          refine take_ (i:=1) (N:=some 44) (v:=?_) (a':=?_) #[true,true,false,false,false,false,false,false,false,false,false,false,false,false,false,false,false,false,false,false] rfl rfl (by kernel_rfl) (fun _ _ _ h=>h) (Or.inl ⟨by rfl,?_⟩) hHeld ?_ ?_
          rotate_left
          ·rintro w' ⟨s0,s1,s2,s3,s4,s5⟩
           go_simp
           with_reducible rfl
          rotate_left
          ·simp only [Act.put,lS,i64_w,i32_w]
           rfl
          refine pure_ (i:=2) (N:=some 45) (v:=?_) (a':=?_) #[true,true,true,false,false,false,false,false,false,false,false,false,false,false,false,false,false,false,false,false] rfl rfl (by kernel_rfl) (fun _ _ _ h=>h) (Or.inl ⟨by rfl,?_⟩) ?_ ?_
          rotate_left
          ·intro w'
           go_simp
           with_reducible rfl
          rotate_left
          ·simp only [Act.put,lS,i64_w,i32_w]
           rfl
          refine pure_ (i:=3) (N:=some 46) (v:=?_) (a':=?_) #[true,true,true,true,false,false,false,false,false,false,false,false,false,false,false,false,false,false,false,false] rfl rfl (by kernel_rfl) (fun _ _ _ h=>h) (Or.inl ⟨by rfl,?_⟩) ?_ ?_
          rotate_left
          ·intro w'
           go_simp
           with_reducible rfl
          rotate_left
          ·simp only [Act.put,lS,i64_w,i32_w]
           rfl
          refine pure_ (i:=4) (N:=some 47) (v:=?_) (a':=?_) #[true,true,true,true,true,false,false,false,false,false,false,false,false,false,false,false,false,false,false,false] rfl rfl (by kernel_rfl) (fun _ _ _ h=>h) (Or.inl ⟨by rfl,?_⟩) ?_ ?_
          rotate_left
          ·intro w'
           go_simp
           with_reducible rfl
          rotate_left
          ·simp only [Act.put,lS,i64_w,i32_w]
           rfl
          refine pure_ (i:=5) (N:=some 48) (v:=?_) (a':=?_) #[true,true,true,true,true,true,false,false,false,false,false,false,false,false,false,false,false,false,false,false] rfl rfl (by kernel_rfl) (fun _ _ _ h=>h) (Or.inl ⟨by rfl,?_⟩) ?_ ?_
          rotate_left
          ·intro w'
           go_simp
           with_reducible rfl
          rotate_left
          ·simp only [Act.put,lS,i64_w,i32_w]
           rfl
          refine pure_ (i:=6) (N:=some 49) (v:=?_) (a':=?_) #[true,true,true,true,true,true,true,false,false,false,false,false,false,false,false,false,false,false,false,false] rfl rfl (by kernel_rfl) (fun _ _ _ h=>h) (Or.inl ⟨by rfl,?_⟩) ?_ ?_
          rotate_left
          ·intro w'
           go_simp
           with_reducible rfl
          rotate_left
          ·simp only [Act.put,lS,i64_w,i32_w]
           rfl
          refine pure_ (i:=7) (N:=some 50) (v:=?_) (a':=?_) #[true,true,true,true,true,true,true,true,false,false,false,false,false,false,false,false,false,false,false,false] rfl rfl (by kernel_rfl) (fun _ _ _ h=>h) (Or.inl ⟨by rfl,?_⟩) ?_ ?_
          rotate_left
          ·intro w'
           go_simp
           with_reducible rfl
          rotate_left
          ·simp only [Act.put,lS,i64_w,i32_w]
           rfl
          refine pure_ (i:=8) (N:=some 51) (v:=?_) (a':=?_) #[true,true,true,true,true,true,true,true,true,false,false,false,false,false,false,false,false,false,false,false] rfl rfl (by kernel_rfl) (fun _ _ _ h=>h) (Or.inl ⟨by rfl,?_⟩) ?_ ?_
          rotate_left
          ·intro w'
           go_simp
           with_reducible rfl
          rotate_left
          ·simp only [Act.put,lS,i64_w,i32_w]
           rfl
          refine pure_ (i:=9) (N:=some 52) (v:=?_) (a':=?_) #[true,true,true,true,true,true,true,true,true,true,false,false,false,false,false,false,false,false,false,false] rfl rfl (by kernel_rfl) (fun _ _ _ h=>h) (Or.inl ⟨by rfl,?_⟩) ?_ ?_
          rotate_left
          ·intro w'
           go_simp
           with_reducible rfl
          rotate_left
          ·simp only [Act.put,lS,i64_w,i32_w]
           rfl
          refine pure_ (i:=10) (N:=some 53) (v:=?_) (a':=?_) #[true,true,true,true,true,true,true,true,true,true,true,false,false,false,false,false,false,false,false,false] rfl rfl (by kernel_rfl) (fun _ _ _ h=>h) (Or.inl ⟨by rfl,?_⟩) ?_ ?_
          rotate_left
          ·intro w'
           go_simp
           with_reducible rfl
          rotate_left
          ·simp only [Act.put,lS,i64_w,i32_w]
           rfl
          refine pure_ (i:=11) (N:=some 54) (v:=undef) (a':=?_) #[true,true,true,true,true,true,true,true,true,true,true,true,false,false,false,false,false,false,false,false] rfl rfl (by kernel_rfl) (fun _ _ _ h=>h) (Or.inr ⟨by rfl,rfl⟩) ?_ ?_
          rotate_left
          ·simp only [Act.put,lS,i64_w,i32_w]
           rfl
          refine pure_ (i:=12) (N:=some 55) (v:=undef) (a':=?_) #[true,true,true,true,true,true,true,true,true,true,true,true,true,false,false,false,false,false,false,false] rfl rfl (by kernel_rfl) (fun _ _ _ h=>h) (Or.inr ⟨by rfl,rfl⟩) ?_ ?_
          rotate_left
          ·simp only [Act.put,lS,i64_w,i32_w]
           rfl
          refine pure_ (i:=13) (N:=some 56) (v:=undef) (a':=?_) #[true,true,true,true,true,true,true,true,true,true,true,true,true,true,false,false,false,false,false,false] rfl rfl (by kernel_rfl) (fun _ _ _ h=>h) (Or.inr ⟨by rfl,rfl⟩) ?_ ?_
          rotate_left
          ·simp only [Act.put,lS,i64_w,i32_w]
           rfl
          refine pure_ (i:=14) (N:=some 57) (v:=undef) (a':=?_) #[true,true,true,true,true,true,true,true,true,true,true,true,true,true,true,false,false,false,false,false] rfl rfl (by kernel_rfl) (fun _ _ _ h=>h) (Or.inr ⟨by rfl,rfl⟩) ?_ ?_
          rotate_left
          ·simp only [Act.put,lS,i64_w,i32_w]
           rfl
          refine pure_ (i:=15) (N:=some 58) (v:=undef) (a':=?_) #[true,true,true,true,true,true,true,true,true,true,true,true,true,true,true,true,false,false,false,false] rfl rfl (by kernel_rfl) (fun _ _ _ h=>h) (Or.inr ⟨by rfl,rfl⟩) ?_ ?_
          rotate_left
          ·simp only [Act.put,lS,i64_w,i32_w]
           rfl
          refine pure_ (i:=16) (N:=some 59) (v:=undef) (a':=?_) #[true,true,true,true,true,true,true,true,true,true,true,true,true,true,true,true,true,false,false,false] rfl rfl (by kernel_rfl) (fun _ _ _ h=>h) (Or.inr ⟨by rfl,rfl⟩) ?_ ?_
          rotate_left
          ·simp only [Act.put,lS,i64_w,i32_w]
           rfl
          refine pure_ (i:=17) (N:=some 60) (v:=undef) (a':=?_) #[true,true,true,true,true,true,true,true,true,true,true,true,true,true,true,true,true,true,false,false] rfl rfl (by kernel_rfl) (fun _ _ _ h=>h) (Or.inr ⟨by rfl,rfl⟩) ?_ ?_
          rotate_left
          ·simp only [Act.put,lS,i64_w,i32_w]
           rfl
          refine pure_ (i:=18) (N:=some 61) (v:=?_) (a':=?_) #[true,true,true,true,true,true,true,true,true,true,true,true,true,true,true,true,true,true,true,false] rfl rfl (by kernel_rfl) (fun _ _ _ h=>h) (Or.inl ⟨by rfl,?_⟩) ?_ ?_
          rotate_left
          ·intro w'
           go_simp
           with_reducible rfl
          rotate_left
          ·simp only [Act.put,lS,i64_w,i32_w]
           rfl
          refine pure_ (i:=19) (N:=some 62) (v:=?_) (a':=?_) #[true,true,true,true,true,true,true,true,true,true,true,true,true,true,true,true,true,true,true,true] rfl rfl (by kernel_rfl) (fun _ _ _ h=>h) (Or.inl ⟨by rfl,?_⟩) ?_ ?_
          rotate_left
          ·intro w'
           go_simp
           with_reducible rfl
          rotate_left
          ·simp only [Act.put,lS,i64_w,i32_w]
           rfl
          refine done_ (by kernel_rfl) ?_
          have HTO:=aK (show toAt l0 a (kk+1)=y by rw [HTA.out];unfold stepB;rw [if_neg HP.out,HY.out,HT.out,HZ.out];rfl)
          have V3:=aK YD.out
          go_wp2
          go_roundg (l0.length-(kk+1))
          case measure=>omega
          case rel=>exact ⟨kk+1,by omega,by omega,congrArg (Value.int .i64) HW.out,⟨GD.out⟩,⟨by rw [HTO.out];exact V3.out⟩⟩
         | true =>
          have HZ:=aK htz
          have HF1:=aK (fun V=>fleuronref18_far.calls a.f0 a.f1 x.f0 x.f1 _ V (far_is a x))
          have HF2:=aK (fun V=>fleuronref18_far.calls a.f0 a.f1 y.f0 y.f1 _ V (far_is a y))
          cases hfd:decide (farD a y<farD a x) with
          | true =>
           have HFD:=aK hfd
           go_wp2
           refine start_ (n:=20) (S:=fun w'=>w'.cell? ⟨ba,0,none⟩=some (.int .i64 a.f0)∧w'.cell? ⟨ba,1,none⟩=some (.int .i64 a.f1)∧w'.cell? ⟨wo.heap.size,0,none⟩=some (.int .i64 y.f0)∧w'.cell? ⟨wo.heap.size,1,none⟩=some (.int .i64 y.f1)∧w'.cell? ⟨wr.heap.size,0,none⟩=some (.int .i64 x.f0)∧w'.cell? ⟨wr.heap.size,1,none⟩=some (.int .i64 x.f1)∧(wo.alloc (.cells #[.int .i64 a.f0,.int .i64 a.f1] 47)).grownBy w' (some wo.heap.size)∧w'.heap[wo.heap.size]?=some (.cells #[.int .i64 y.f0,.int .i64 y.f1] 47 (0,0))∧w'.heap[wr.heap.size]?=some (.cells #[.int .i64 x.f0,.int .i64 x.f1] 47 (0,0))) (ds:=[]) #[false,false,false,false,false,false,false,false,false,false,false,false,false,false,false,false,false,false,false,false] (by kernel_rfl) rfl rfl ⟨D0.out,D1.out,D2.out,D3.out,D4.out,D5.out,GD.out,YD.out,XD.out⟩ (fun hHeld=>?_)
           refine take_ (i:=0) (N:=some 43) (v:=?_) (a':=?_) #[true,false,false,false,false,false,false,false,false,false,false,false,false,false,false,false,false,false,false,false] rfl rfl (by kernel_rfl) (fun _ _ _ h=>h) (Or.inl ⟨by rfl,?_⟩) hHeld ?_ ?_
           rotate_left
           ·rintro w' ⟨s0,s1,s2,s3,s4,s5,s6,s7,s8⟩
            go_simp
            with_reducible rfl
           rotate_left
           ·simp only [Act.put,lS,i64_w,i32_w]
            rfl
           refine take_ (i:=1) (N:=some 44) (v:=?_) (a':=?_) #[true,true,false,false,false,false,false,false,false,false,false,false,false,false,false,false,false,false,false,false] rfl rfl (by kernel_rfl) (fun _ _ _ h=>h) (Or.inl ⟨by rfl,?_⟩) hHeld ?_ ?_
           rotate_left
           ·rintro w' ⟨s0,s1,s2,s3,s4,s5,s6,s7,s8⟩
            go_simp
            with_reducible rfl
           rotate_left
           ·simp only [Act.put,lS,i64_w,i32_w]
            rfl
           refine pure_ (i:=2) (N:=some 45) (v:=?_) (a':=?_) #[true,true,true,false,false,false,false,false,false,false,false,false,false,false,false,false,false,false,false,false] rfl rfl (by kernel_rfl) (fun _ _ _ h=>h) (Or.inl ⟨by rfl,?_⟩) ?_ ?_
           rotate_left
           ·intro w'
            go_simp
            with_reducible rfl
           rotate_left
           ·simp only [Act.put,lS,i64_w,i32_w]
            rfl
           refine pure_ (i:=3) (N:=some 46) (v:=?_) (a':=?_) #[true,true,true,true,false,false,false,false,false,false,false,false,false,false,false,false,false,false,false,false] rfl rfl (by kernel_rfl) (fun _ _ _ h=>h) (Or.inl ⟨by rfl,?_⟩) ?_ ?_
           rotate_left
           ·intro w'
            go_simp
            with_reducible rfl
           rotate_left
           ·simp only [Act.put,lS,i64_w,i32_w]
            rfl
           refine pure_ (i:=4) (N:=some 47) (v:=?_) (a':=?_) #[true,true,true,true,true,false,false,false,false,false,false,false,false,false,false,false,false,false,false,false] rfl rfl (by kernel_rfl) (fun _ _ _ h=>h) (Or.inl ⟨by rfl,?_⟩) ?_ ?_
           rotate_left
           ·intro w'
            go_simp
            with_reducible rfl
           rotate_left
           ·simp only [Act.put,lS,i64_w,i32_w]
            rfl
           refine pure_ (i:=5) (N:=some 48) (v:=?_) (a':=?_) #[true,true,true,true,true,true,false,false,false,false,false,false,false,false,false,false,false,false,false,false] rfl rfl (by kernel_rfl) (fun _ _ _ h=>h) (Or.inl ⟨by rfl,?_⟩) ?_ ?_
           rotate_left
           ·intro w'
            go_simp
            with_reducible rfl
           rotate_left
           ·simp only [Act.put,lS,i64_w,i32_w]
            rfl
           refine pure_ (i:=6) (N:=some 49) (v:=?_) (a':=?_) #[true,true,true,true,true,true,true,false,false,false,false,false,false,false,false,false,false,false,false,false] rfl rfl (by kernel_rfl) (fun _ _ _ h=>h) (Or.inl ⟨by rfl,?_⟩) ?_ ?_
           rotate_left
           ·intro w'
            go_simp
            with_reducible rfl
           rotate_left
           ·simp only [Act.put,lS,i64_w,i32_w]
            rfl
           refine pure_ (i:=7) (N:=some 50) (v:=?_) (a':=?_) #[true,true,true,true,true,true,true,true,false,false,false,false,false,false,false,false,false,false,false,false] rfl rfl (by kernel_rfl) (fun _ _ _ h=>h) (Or.inl ⟨by rfl,?_⟩) ?_ ?_
           rotate_left
           ·intro w'
            go_simp
            with_reducible rfl
           rotate_left
           ·simp only [Act.put,lS,i64_w,i32_w]
            rfl
           refine pure_ (i:=8) (N:=some 51) (v:=?_) (a':=?_) #[true,true,true,true,true,true,true,true,true,false,false,false,false,false,false,false,false,false,false,false] rfl rfl (by kernel_rfl) (fun _ _ _ h=>h) (Or.inl ⟨by rfl,?_⟩) ?_ ?_
           rotate_left
           ·intro w'
            go_simp
            with_reducible rfl
           rotate_left
           ·simp only [Act.put,lS,i64_w,i32_w]
            rfl
           refine pure_ (i:=9) (N:=some 52) (v:=?_) (a':=?_) #[true,true,true,true,true,true,true,true,true,true,false,false,false,false,false,false,false,false,false,false] rfl rfl (by kernel_rfl) (fun _ _ _ h=>h) (Or.inl ⟨by rfl,?_⟩) ?_ ?_
           rotate_left
           ·intro w'
            go_simp
            with_reducible rfl
           rotate_left
           ·simp only [Act.put,lS,i64_w,i32_w]
            rfl
           refine pure_ (i:=10) (N:=some 53) (v:=?_) (a':=?_) #[true,true,true,true,true,true,true,true,true,true,true,false,false,false,false,false,false,false,false,false] rfl rfl (by kernel_rfl) (fun _ _ _ h=>h) (Or.inl ⟨by rfl,?_⟩) ?_ ?_
           rotate_left
           ·intro w'
            go_simp
            with_reducible rfl
           rotate_left
           ·simp only [Act.put,lS,i64_w,i32_w]
            rfl
           refine take_ (i:=11) (N:=some 54) (v:=?_) (a':=?_) #[true,true,true,true,true,true,true,true,true,true,true,true,false,false,false,false,false,false,false,false] rfl rfl (by kernel_rfl) (fun _ _ _ h=>h) (Or.inl ⟨by rfl,?_⟩) hHeld ?_ ?_
           rotate_left
           ·rintro w' ⟨s0,s1,s2,s3,s4,s5,s6,s7,s8⟩
            go_simp
            with_reducible rfl
           rotate_left
           ·simp only [Act.put,lS,i64_w,i32_w]
            rfl
           refine take_ (i:=12) (N:=some 55) (v:=?_) (a':=?_) #[true,true,true,true,true,true,true,true,true,true,true,true,true,false,false,false,false,false,false,false] rfl rfl (by kernel_rfl) (fun _ _ _ h=>h) (Or.inl ⟨by rfl,?_⟩) hHeld ?_ ?_
           rotate_left
           ·rintro w' ⟨s0,s1,s2,s3,s4,s5,s6,s7,s8⟩
            go_simp
            with_reducible rfl
           rotate_left
           ·simp only [Act.put,lS,i64_w,i32_w]
            rfl
           refine take_ (i:=14) (N:=some 57) (v:=?_) (a':=?_) #[true,true,true,true,true,true,true,true,true,true,true,true,true,false,true,false,false,false,false,false] rfl rfl (by kernel_rfl) (fun _ _ _ h=>h) (Or.inl ⟨by rfl,?_⟩) hHeld ?_ ?_
           rotate_left
           ·rintro w' ⟨s0,s1,s2,s3,s4,s5,s6,s7,s8⟩
            go_simp
            with_reducible rfl
           rotate_left
           ·simp only [Act.put,lS,i64_w,i32_w]
            rfl
           refine take_ (i:=15) (N:=some 58) (v:=?_) (a':=?_) #[true,true,true,true,true,true,true,true,true,true,true,true,true,false,true,true,false,false,false,false] rfl rfl (by kernel_rfl) (fun _ _ _ h=>h) (Or.inl ⟨by rfl,?_⟩) hHeld ?_ ?_
           rotate_left
           ·rintro w' ⟨s0,s1,s2,s3,s4,s5,s6,s7,s8⟩
            go_simp
            with_reducible rfl
           rotate_left
           ·simp only [Act.put,lS,i64_w,i32_w]
            rfl
           refine one_ (i:=13) (N:=some 56) #[true,true,true,true,true,true,true,true,true,true,true,true,true,true,true,true,false,false,false,false] rfl rfl (by kernel_rfl) (by decide) (fun K hK=>?_)
           refine goes_ Tryz.func135 (by kernel_rfl) rfl #[.agg #[.int .i64 a.f0,.int .i64 a.f1],.agg #[.int .i64 x.f0,.int .i64 x.f1]] (by rfl) rfl rfl (by simp only [List.map_toArray,List.map_cons,List.map_nil];rfl) ?_
           with_reducible refine (HF1.out _).mono ?_
           rintro e w7 ⟨rfl,hk7⟩
           refine ⟨_,rfl,?_⟩
           refine hK.out _ _ ⟨(hk7.cell (World.block_lt_of_cell? _ _ hHeld.1)).trans hHeld.1,(hk7.cell (World.block_lt_of_cell? _ _ hHeld.2.1)).trans hHeld.2.1,(hk7.cell (World.block_lt_of_cell? _ _ hHeld.2.2.1)).trans hHeld.2.2.1,(hk7.cell (World.block_lt_of_cell? _ _ hHeld.2.2.2.1)).trans hHeld.2.2.2.1,(hk7.cell (World.block_lt_of_cell? _ _ hHeld.2.2.2.2.1)).trans hHeld.2.2.2.2.1,(hk7.cell (World.block_lt_of_cell? _ _ hHeld.2.2.2.2.2.1)).trans hHeld.2.2.2.2.2.1,grown_below hHeld.2.2.2.2.2.2.1 hk7,blk_below hHeld.2.2.2.2.2.2.2.1 hk7,blk_below hHeld.2.2.2.2.2.2.2.2 hk7⟩ (fun hHeld=>?_)
           clear hK K
           refine norm_ (a':=?_) ?_ ?_
           rotate_left
           ·show Act.put _ (some 56) _=_
            simp only [Act.put,lS,i64_w,i32_w]
            rfl
           refine one_ (i:=16) (N:=some 59) #[true,true,true,true,true,true,true,true,true,true,true,true,true,true,true,true,true,false,false,false] rfl rfl (by kernel_rfl) (by decide) (fun K hK=>?_)
           refine goes_ Tryz.func135 (by kernel_rfl) rfl #[.agg #[.int .i64 a.f0,.int .i64 a.f1],.agg #[.int .i64 y.f0,.int .i64 y.f1]] (by rfl) rfl rfl (by simp only [List.map_toArray,List.map_cons,List.map_nil];rfl) ?_
           with_reducible refine (HF2.out _).mono ?_
           rintro e w8 ⟨rfl,hk8⟩
           refine ⟨_,rfl,?_⟩
           refine hK.out _ _ ⟨(hk8.cell (World.block_lt_of_cell? _ _ hHeld.1)).trans hHeld.1,(hk8.cell (World.block_lt_of_cell? _ _ hHeld.2.1)).trans hHeld.2.1,(hk8.cell (World.block_lt_of_cell? _ _ hHeld.2.2.1)).trans hHeld.2.2.1,(hk8.cell (World.block_lt_of_cell? _ _ hHeld.2.2.2.1)).trans hHeld.2.2.2.1,(hk8.cell (World.block_lt_of_cell? _ _ hHeld.2.2.2.2.1)).trans hHeld.2.2.2.2.1,(hk8.cell (World.block_lt_of_cell? _ _ hHeld.2.2.2.2.2.1)).trans hHeld.2.2.2.2.2.1,grown_below hHeld.2.2.2.2.2.2.1 hk8,blk_below hHeld.2.2.2.2.2.2.2.1 hk8,blk_below hHeld.2.2.2.2.2.2.2.2 hk8⟩ (fun hHeld=>?_)
           clear hK K
           refine norm_ (a':=?_) ?_ ?_
           rotate_left
           ·show Act.put _ (some 59) _=_
            simp only [Act.put,lS,i64_w,i32_w]
            rfl
           refine pure_ (i:=17) (N:=some 60) (v:=?_) (a':=?_) #[true,true,true,true,true,true,true,true,true,true,true,true,true,true,true,true,true,true,false,false] rfl rfl (by kernel_rfl) (fun _ _ _ h=>h) (Or.inl ⟨by rfl,?_⟩) ?_ ?_
           rotate_left
           ·intro w'
            go_simp
            with_reducible rfl
           rotate_left
           ·simp only [Act.put,lS,i64_w,i32_w]
            rfl
           refine pure_ (i:=18) (N:=some 61) (v:=?_) (a':=?_) #[true,true,true,true,true,true,true,true,true,true,true,true,true,true,true,true,true,true,true,false] rfl rfl (by kernel_rfl) (fun _ _ _ h=>h) (Or.inl ⟨by rfl,?_⟩) ?_ ?_
           rotate_left
           ·intro w'
            go_simp
            with_reducible rfl
           rotate_left
           ·simp only [Act.put,lS,i64_w,i32_w]
            rfl
           refine pure_ (i:=19) (N:=some 62) (v:=?_) (a':=?_) #[true,true,true,true,true,true,true,true,true,true,true,true,true,true,true,true,true,true,true,true] rfl rfl (by kernel_rfl) (fun _ _ _ h=>h) (Or.inl ⟨by rfl,?_⟩) ?_ ?_
           rotate_left
           ·intro w'
            go_simp
            with_reducible rfl
           rotate_left
           ·simp only [Act.put,lS,i64_w,i32_w]
            rfl
           refine done_ (by kernel_rfl) ?_
           have GG:=aK hHeld.2.2.2.2.2.2.1
           have YY:=aK hHeld.2.2.2.2.2.2.2.1
           have XX:=aK hHeld.2.2.2.2.2.2.2.2
           have HTO:=aK (show toAt l0 a (kk+1)=x by rw [HTA.out];unfold stepB;rw [if_neg HP.out,HY.out,HT.out,HZ.out,HFD.out];rfl)
           have s0:=(blk_cell YY.out 0).trans rfl
           have z0:=blk_frozen YY.out 0
           have V2:=blk_set YY.out 0 (.int .i64 x.f0)
           have s1:=(blk_cell V2 1).trans rfl
           have z1:=blk_frozen V2 1
           have V3:=aK (blk_set V2 1 (.int .i64 x.f1))
           have GZ:=aK (grown_cell (grown_cell GG.out 0 (.int .i64 x.f0)) 1 (.int .i64 x.f1))
           clear V2
           have x0:=(blk_cell XX.out 0).trans rfl
           have x1:=(blk_cell XX.out 1).trans rfl
           go_wp2
           go_roundg (l0.length-(kk+1))
           case measure=>omega
           case rel=>exact ⟨kk+1,by omega,by omega,congrArg (Value.int .i64) HW.out,GZ,⟨by rw [HTO.out];exact V3.out⟩⟩
          | false =>
           have HFD:=aK hfd
           go_wp2
           refine start_ (n:=20) (S:=fun w'=>w'.cell? ⟨ba,0,none⟩=some (.int .i64 a.f0)∧w'.cell? ⟨ba,1,none⟩=some (.int .i64 a.f1)∧w'.cell? ⟨wo.heap.size,0,none⟩=some (.int .i64 y.f0)∧w'.cell? ⟨wo.heap.size,1,none⟩=some (.int .i64 y.f1)∧w'.cell? ⟨wr.heap.size,0,none⟩=some (.int .i64 x.f0)∧w'.cell? ⟨wr.heap.size,1,none⟩=some (.int .i64 x.f1)∧(wo.alloc (.cells #[.int .i64 a.f0,.int .i64 a.f1] 47)).grownBy w' (some wo.heap.size)∧w'.heap[wo.heap.size]?=some (.cells #[.int .i64 y.f0,.int .i64 y.f1] 47 (0,0))∧w'.heap[wr.heap.size]?=some (.cells #[.int .i64 x.f0,.int .i64 x.f1] 47 (0,0))) (ds:=[]) #[false,false,false,false,false,false,false,false,false,false,false,false,false,false,false,false,false,false,false,false] (by kernel_rfl) rfl rfl ⟨D0.out,D1.out,D2.out,D3.out,D4.out,D5.out,GD.out,YD.out,XD.out⟩ (fun hHeld=>?_)
           refine take_ (i:=0) (N:=some 43) (v:=?_) (a':=?_) #[true,false,false,false,false,false,false,false,false,false,false,false,false,false,false,false,false,false,false,false] rfl rfl (by kernel_rfl) (fun _ _ _ h=>h) (Or.inl ⟨by rfl,?_⟩) hHeld ?_ ?_
           rotate_left
           ·rintro w' ⟨s0,s1,s2,s3,s4,s5,s6,s7,s8⟩
            go_simp
            with_reducible rfl
           rotate_left
           ·simp only [Act.put,lS,i64_w,i32_w]
            rfl
           refine take_ (i:=1) (N:=some 44) (v:=?_) (a':=?_) #[true,true,false,false,false,false,false,false,false,false,false,false,false,false,false,false,false,false,false,false] rfl rfl (by kernel_rfl) (fun _ _ _ h=>h) (Or.inl ⟨by rfl,?_⟩) hHeld ?_ ?_
           rotate_left
           ·rintro w' ⟨s0,s1,s2,s3,s4,s5,s6,s7,s8⟩
            go_simp
            with_reducible rfl
           rotate_left
           ·simp only [Act.put,lS,i64_w,i32_w]
            rfl
           refine pure_ (i:=2) (N:=some 45) (v:=?_) (a':=?_) #[true,true,true,false,false,false,false,false,false,false,false,false,false,false,false,false,false,false,false,false] rfl rfl (by kernel_rfl) (fun _ _ _ h=>h) (Or.inl ⟨by rfl,?_⟩) ?_ ?_
           rotate_left
           ·intro w'
            go_simp
            with_reducible rfl
           rotate_left
           ·simp only [Act.put,lS,i64_w,i32_w]
            rfl
           refine pure_ (i:=3) (N:=some 46) (v:=?_) (a':=?_) #[true,true,true,true,false,false,false,false,false,false,false,false,false,false,false,false,false,false,false,false] rfl rfl (by kernel_rfl) (fun _ _ _ h=>h) (Or.inl ⟨by rfl,?_⟩) ?_ ?_
           rotate_left
           ·intro w'
            go_simp
            with_reducible rfl
           rotate_left
           ·simp only [Act.put,lS,i64_w,i32_w]
            rfl
           refine pure_ (i:=4) (N:=some 47) (v:=?_) (a':=?_) #[true,true,true,true,true,false,false,false,false,false,false,false,false,false,false,false,false,false,false,false] rfl rfl (by kernel_rfl) (fun _ _ _ h=>h) (Or.inl ⟨by rfl,?_⟩) ?_ ?_
           rotate_left
           ·intro w'
            go_simp
            with_reducible rfl
           rotate_left
           ·simp only [Act.put,lS,i64_w,i32_w]
            rfl
           refine pure_ (i:=5) (N:=some 48) (v:=?_) (a':=?_) #[true,true,true,true,true,true,false,false,false,false,false,false,false,false,false,false,false,false,false,false] rfl rfl (by kernel_rfl) (fun _ _ _ h=>h) (Or.inl ⟨by rfl,?_⟩) ?_ ?_
           rotate_left
           ·intro w'
            go_simp
            with_reducible rfl
           rotate_left
           ·simp only [Act.put,lS,i64_w,i32_w]
            rfl
           refine pure_ (i:=6) (N:=some 49) (v:=?_) (a':=?_) #[true,true,true,true,true,true,true,false,false,false,false,false,false,false,false,false,false,false,false,false] rfl rfl (by kernel_rfl) (fun _ _ _ h=>h) (Or.inl ⟨by rfl,?_⟩) ?_ ?_
           rotate_left
           ·intro w'
            go_simp
            with_reducible rfl
           rotate_left
           ·simp only [Act.put,lS,i64_w,i32_w]
            rfl
           refine pure_ (i:=7) (N:=some 50) (v:=?_) (a':=?_) #[true,true,true,true,true,true,true,true,false,false,false,false,false,false,false,false,false,false,false,false] rfl rfl (by kernel_rfl) (fun _ _ _ h=>h) (Or.inl ⟨by rfl,?_⟩) ?_ ?_
           rotate_left
           ·intro w'
            go_simp
            with_reducible rfl
           rotate_left
           ·simp only [Act.put,lS,i64_w,i32_w]
            rfl
           refine pure_ (i:=8) (N:=some 51) (v:=?_) (a':=?_) #[true,true,true,true,true,true,true,true,true,false,false,false,false,false,false,false,false,false,false,false] rfl rfl (by kernel_rfl) (fun _ _ _ h=>h) (Or.inl ⟨by rfl,?_⟩) ?_ ?_
           rotate_left
           ·intro w'
            go_simp
            with_reducible rfl
           rotate_left
           ·simp only [Act.put,lS,i64_w,i32_w]
            rfl
           refine pure_ (i:=9) (N:=some 52) (v:=?_) (a':=?_) #[true,true,true,true,true,true,true,true,true,true,false,false,false,false,false,false,false,false,false,false] rfl rfl (by kernel_rfl) (fun _ _ _ h=>h) (Or.inl ⟨by rfl,?_⟩) ?_ ?_
           rotate_left
           ·intro w'
            go_simp
            with_reducible rfl
           rotate_left
           ·simp only [Act.put,lS,i64_w,i32_w]
            rfl
           refine pure_ (i:=10) (N:=some 53) (v:=?_) (a':=?_) #[true,true,true,true,true,true,true,true,true,true,true,false,false,false,false,false,false,false,false,false] rfl rfl (by kernel_rfl) (fun _ _ _ h=>h) (Or.inl ⟨by rfl,?_⟩) ?_ ?_
           rotate_left
           ·intro w'
            go_simp
            with_reducible rfl
           rotate_left
           ·simp only [Act.put,lS,i64_w,i32_w]
            rfl
           refine take_ (i:=11) (N:=some 54) (v:=?_) (a':=?_) #[true,true,true,true,true,true,true,true,true,true,true,true,false,false,false,false,false,false,false,false] rfl rfl (by kernel_rfl) (fun _ _ _ h=>h) (Or.inl ⟨by rfl,?_⟩) hHeld ?_ ?_
           rotate_left
           ·rintro w' ⟨s0,s1,s2,s3,s4,s5,s6,s7,s8⟩
            go_simp
            with_reducible rfl
           rotate_left
           ·simp only [Act.put,lS,i64_w,i32_w]
            rfl
           refine take_ (i:=12) (N:=some 55) (v:=?_) (a':=?_) #[true,true,true,true,true,true,true,true,true,true,true,true,true,false,false,false,false,false,false,false] rfl rfl (by kernel_rfl) (fun _ _ _ h=>h) (Or.inl ⟨by rfl,?_⟩) hHeld ?_ ?_
           rotate_left
           ·rintro w' ⟨s0,s1,s2,s3,s4,s5,s6,s7,s8⟩
            go_simp
            with_reducible rfl
           rotate_left
           ·simp only [Act.put,lS,i64_w,i32_w]
            rfl
           refine take_ (i:=14) (N:=some 57) (v:=?_) (a':=?_) #[true,true,true,true,true,true,true,true,true,true,true,true,true,false,true,false,false,false,false,false] rfl rfl (by kernel_rfl) (fun _ _ _ h=>h) (Or.inl ⟨by rfl,?_⟩) hHeld ?_ ?_
           rotate_left
           ·rintro w' ⟨s0,s1,s2,s3,s4,s5,s6,s7,s8⟩
            go_simp
            with_reducible rfl
           rotate_left
           ·simp only [Act.put,lS,i64_w,i32_w]
            rfl
           refine take_ (i:=15) (N:=some 58) (v:=?_) (a':=?_) #[true,true,true,true,true,true,true,true,true,true,true,true,true,false,true,true,false,false,false,false] rfl rfl (by kernel_rfl) (fun _ _ _ h=>h) (Or.inl ⟨by rfl,?_⟩) hHeld ?_ ?_
           rotate_left
           ·rintro w' ⟨s0,s1,s2,s3,s4,s5,s6,s7,s8⟩
            go_simp
            with_reducible rfl
           rotate_left
           ·simp only [Act.put,lS,i64_w,i32_w]
            rfl
           refine one_ (i:=13) (N:=some 56) #[true,true,true,true,true,true,true,true,true,true,true,true,true,true,true,true,false,false,false,false] rfl rfl (by kernel_rfl) (by decide) (fun K hK=>?_)
           refine goes_ Tryz.func135 (by kernel_rfl) rfl #[.agg #[.int .i64 a.f0,.int .i64 a.f1],.agg #[.int .i64 x.f0,.int .i64 x.f1]] (by rfl) rfl rfl (by simp only [List.map_toArray,List.map_cons,List.map_nil];rfl) ?_
           with_reducible refine (HF1.out _).mono ?_
           rintro e w7 ⟨rfl,hk7⟩
           refine ⟨_,rfl,?_⟩
           refine hK.out _ _ ⟨(hk7.cell (World.block_lt_of_cell? _ _ hHeld.1)).trans hHeld.1,(hk7.cell (World.block_lt_of_cell? _ _ hHeld.2.1)).trans hHeld.2.1,(hk7.cell (World.block_lt_of_cell? _ _ hHeld.2.2.1)).trans hHeld.2.2.1,(hk7.cell (World.block_lt_of_cell? _ _ hHeld.2.2.2.1)).trans hHeld.2.2.2.1,(hk7.cell (World.block_lt_of_cell? _ _ hHeld.2.2.2.2.1)).trans hHeld.2.2.2.2.1,(hk7.cell (World.block_lt_of_cell? _ _ hHeld.2.2.2.2.2.1)).trans hHeld.2.2.2.2.2.1,grown_below hHeld.2.2.2.2.2.2.1 hk7,blk_below hHeld.2.2.2.2.2.2.2.1 hk7,blk_below hHeld.2.2.2.2.2.2.2.2 hk7⟩ (fun hHeld=>?_)
           clear hK K
           refine norm_ (a':=?_) ?_ ?_
           rotate_left
           ·show Act.put _ (some 56) _=_
            simp only [Act.put,lS,i64_w,i32_w]
            rfl
           refine one_ (i:=16) (N:=some 59) #[true,true,true,true,true,true,true,true,true,true,true,true,true,true,true,true,true,false,false,false] rfl rfl (by kernel_rfl) (by decide) (fun K hK=>?_)
           refine goes_ Tryz.func135 (by kernel_rfl) rfl #[.agg #[.int .i64 a.f0,.int .i64 a.f1],.agg #[.int .i64 y.f0,.int .i64 y.f1]] (by rfl) rfl rfl (by simp only [List.map_toArray,List.map_cons,List.map_nil];rfl) ?_
           with_reducible refine (HF2.out _).mono ?_
           rintro e w8 ⟨rfl,hk8⟩
           refine ⟨_,rfl,?_⟩
           refine hK.out _ _ ⟨(hk8.cell (World.block_lt_of_cell? _ _ hHeld.1)).trans hHeld.1,(hk8.cell (World.block_lt_of_cell? _ _ hHeld.2.1)).trans hHeld.2.1,(hk8.cell (World.block_lt_of_cell? _ _ hHeld.2.2.1)).trans hHeld.2.2.1,(hk8.cell (World.block_lt_of_cell? _ _ hHeld.2.2.2.1)).trans hHeld.2.2.2.1,(hk8.cell (World.block_lt_of_cell? _ _ hHeld.2.2.2.2.1)).trans hHeld.2.2.2.2.1,(hk8.cell (World.block_lt_of_cell? _ _ hHeld.2.2.2.2.2.1)).trans hHeld.2.2.2.2.2.1,grown_below hHeld.2.2.2.2.2.2.1 hk8,blk_below hHeld.2.2.2.2.2.2.2.1 hk8,blk_below hHeld.2.2.2.2.2.2.2.2 hk8⟩ (fun hHeld=>?_)
           clear hK K
           refine norm_ (a':=?_) ?_ ?_
           rotate_left
           ·show Act.put _ (some 59) _=_
            simp only [Act.put,lS,i64_w,i32_w]
            rfl
           refine pure_ (i:=17) (N:=some 60) (v:=?_) (a':=?_) #[true,true,true,true,true,true,true,true,true,true,true,true,true,true,true,true,true,true,false,false] rfl rfl (by kernel_rfl) (fun _ _ _ h=>h) (Or.inl ⟨by rfl,?_⟩) ?_ ?_
           rotate_left
           ·intro w'
            go_simp
            with_reducible rfl
           rotate_left
           ·simp only [Act.put,lS,i64_w,i32_w]
            rfl
           refine pure_ (i:=18) (N:=some 61) (v:=?_) (a':=?_) #[true,true,true,true,true,true,true,true,true,true,true,true,true,true,true,true,true,true,true,false] rfl rfl (by kernel_rfl) (fun _ _ _ h=>h) (Or.inl ⟨by rfl,?_⟩) ?_ ?_
           rotate_left
           ·intro w'
            go_simp
            with_reducible rfl
           rotate_left
           ·simp only [Act.put,lS,i64_w,i32_w]
            rfl
           refine pure_ (i:=19) (N:=some 62) (v:=?_) (a':=?_) #[true,true,true,true,true,true,true,true,true,true,true,true,true,true,true,true,true,true,true,true] rfl rfl (by kernel_rfl) (fun _ _ _ h=>h) (Or.inl ⟨by rfl,?_⟩) ?_ ?_
           rotate_left
           ·intro w'
            go_simp
            with_reducible rfl
           rotate_left
           ·simp only [Act.put,lS,i64_w,i32_w]
            rfl
           refine done_ (by kernel_rfl) ?_
           have GG:=aK hHeld.2.2.2.2.2.2.1
           have YY:=aK hHeld.2.2.2.2.2.2.2.1
           have HTO:=aK (show toAt l0 a (kk+1)=y by rw [HTA.out];unfold stepB;rw [if_neg HP.out,HY.out,HT.out,HZ.out,HFD.out];rfl)
           have V3:=aK YY.out
           go_wp2
           go_roundg (l0.length-(kk+1))
           case measure=>omega
           case rel=>exact ⟨kk+1,by omega,by omega,congrArg (Value.int .i64) HW.out,⟨GG.out⟩,⟨by rw [HTO.out];exact V3.out⟩⟩
     ·have hlti : ¬ (kk:Int)<(l0.length:Int):=by omega
      obtain rfl:kk=l0.length:=by omega
      have hr1:(if eqP (toAt l0 a l0.length) f || eqP (toAt l0 a l0.length) a then some out else roundGo l0 f gk' (toAt l0 a l0.length) (out++[toAt l0 a l0.length]))=some r:=HA.out
      have hbf:=blk_grown (blk_alloc BF.out (.cells #[.int .i64 a.f0,.int .i64 a.f1] 47)) HG.out (by have:=blk_lt BF.out;simp;omega)
      have hro:=Kd.R_step HRO.out (w1:=wr) (fun k _ hk=>(HG.out.block k (by simp;omega) (by simp;omega)).trans ((below_alloc (Below.refl wo.heap.size wo) (.cells #[.int .i64 a.f0,.int .i64 a.f1] 47)).block k hk))
      have hlt8 : ∀ k,(Value.slice A6 out.length c6).ownBlock=some k→k<wo.heap.size:=Kd.R_lt HRO.out
      have hok1:=HRO.out.1
      have hsz:wo.heap.size<wr.heap.size:=by have:=HG.out.size;simp at this;omega
      have hba:ba<wo.heap.size:=blk_lt BA.out
      have hbg:w.heap.size<wo.heap.size:=blk_lt BF.out
      generalize toAt l0 a l0.length=y at *
      have y0:=(blk_cell BT.out 0).trans rfl
      have y1:=(blk_cell BT.out 1).trans rfl
      have g0:=(blk_cell hbf 0).trans rfl
      have g1:=(blk_cell hbf 1).trans rfl
      have b0:=(blk_cell BAi.out 0).trans rfl
      have b1:=(blk_cell BAi.out 1).trans rfl
      have HR1:=aK hr1
      have HBF:=aK hbf
      have HRQ:=aK hro
      have HSZ1:=aK (And.intro hsz (And.intro hba hbg))
      have NT:some wo.heap.size≠(Value.slice A6 out.length c6).ownBlock:=fun e=>by have:=hlt8 _ e.symm;omega
      have NA:some ba≠(Value.slice A6 out.length c6).ownBlock:=fun e=>(hok1 _ e.symm).2 rfl
      have NF:some w.heap.size≠(Value.slice A6 out.length c6).ownBlock:=fun e=>(hok1 _ e.symm).1 rfl
      have NN:=aK (And.intro NT (And.intro NA NF))
      clear hr1 hbf hro hsz hba hbg hlt8 hok1 NT NA NF
      cases hyf:(y.f0 == f.f0 && (y.f1 == f.f1)) with
      | true =>
       have HE:=aK (show some out=some r by have h:=HR1.out;rw [show eqP y f=true from hyf] at h;simpa using h)
       go_wp2
       go_ret
       obtain rfl:=Option.some.inj HE.out
       exact ⟨_,rfl,Kd.R_mono HRQ.out (fun _ _=>trivial),HBi.out⟩
      | false =>
       cases hya:(y.f0 == a.f0 && (y.f1 == a.f1)) with
       | true =>
        have HE:=aK (show some out=some r by have h:=HR1.out;rw [show eqP y f=false from hyf,show eqP y a=true from hya] at h;simpa using h)
        go_wp2
        go_ret
        obtain rfl:=Option.some.inj HE.out
        exact ⟨_,rfl,Kd.R_mono HRQ.out (fun _ _=>trivial),HBi.out⟩
       | false =>
        have HE:=aK (show roundGo l0 f gk' y (out++[y])=some r by have h:=HR1.out;rw [show eqP y f=false from hyf,show eqP y a=false from hya] at h;simpa using h)
        have HRY:=aK (Kd.R_reads' (row_of_pts (base:=wr.heap.size) (ok:=fun _=>True) (cap:=1) (d:=[y]) (blk_new wr (.cells #[.int .i64 y.f0,.int .i64 y.f1] 47)) (pts1 y) (Nat.le_refl _) trivial (by simp) (by omega) rfl)).2.2
        have HOA:=aK (Kd.R_below HRQ.out (below_alloc (Below.refl wr.heap.size wr) (.cells #[.int .i64 y.f0,.int .i64 y.f1] 47)))
        have HBB:=aK (below_alloc HBi.out (.cells #[.int .i64 y.f0,.int .i64 y.f1] 47))
        go_wp2_with ((with_reducible refine gate_builtin (b:=.append) (xs:=#[.tmp 74,.tmp 76]) rfl ?_);at_builtin;refine hold_ ?_)
        change wpList _ _ _ _ _ _
        refine Kd.R_append_rows k47 (w0:=w) w.heap.size rfl (.tmp 74) (.tmp 76) 34 47 (.agg #[(.int .i64 0),(.int .i64 0)]) 16 rfl Tryz.underlying34 info47 rfl (by decide) (by omega) (.slice A6 out.length c6) out [y] _ _ _ (fun k=>k≠w.heap.size∧k≠ba) (fun _=>False) rfl rfl HOA.out HRY.out (fun _ _ h=>h) (fun _ h=>h.elim) (fun k hk=>by have:=HSZ1.out;have hk':(wr.alloc (.cells #[.int .i64 y.f0,.int .i64 y.f1] 47)).heap.size≤k:=hk;have e1:(wr.alloc (.cells #[.int .i64 y.f0,.int .i64 y.f1] 47)).heap.size=wr.heap.size+1:=World.size_alloc _ _;rw [e1] at hk';exact ⟨by omega,by omega⟩) HBB.out (by have:=HBB.out.size;exact this) (by have:=HN.out;omega) ?_
        intro v1 w5 ho hb hg hat
        have BT5:=blk_grown (blk_alloc BT.out (.cells #[.int .i64 y.f0,.int .i64 y.f1] 47)) hg NN.out.1
        have BA5:=blk_grown (blk_alloc BAi.out (.cells #[.int .i64 y.f0,.int .i64 y.f1] 47)) hg NN.out.2.1
        have BF5:=aK (blk_grown (blk_alloc HBF.out (.cells #[.int .i64 y.f0,.int .i64 y.f1] 47)) hg NN.out.2.2)
        have HO5:=aK ho
        have HB5:=aK hb
        have t0:=(blk_cell BT5 0).trans rfl
        have t1:=(blk_cell BT5 1).trans rfl
        have s0:=(blk_cell BA5 0).trans rfl
        have z0:=blk_frozen BA5 0
        have V2:=blk_set BA5 0 (.int .i64 y.f0)
        have s1:=(blk_cell V2 1).trans rfl
        have z1:=blk_frozen V2 1
        have V3:=blk_set V2 1 (.int .i64 y.f1)
        have m0:=(blk_cell V3 0).trans rfl
        have m1:=(blk_cell V3 1).trans rfl
        have HSZ5:=aK hg.size
        clear BT5 BA5 V2 V3 ho hb hg hat
        go_wp2
        go_roundg gk'
        case measure=>omega
        case rel =>
         refine ⟨v1,out++[y],y,_,rfl,rfl,HE,⟨by have:=HN.out;simp;omega⟩,⟨?_⟩,⟨by have h:=blk_new ((w5.setCell ⟨ba,0,none⟩ (.int .i64 y.f0)).setCell ⟨ba,1,none⟩ (.int .i64 y.f1)) (.cells #[.int .i64 y.f0,.int .i64 y.f1] 47);simp only [World.size_setCell] at h;exact h⟩,⟨blk_alloc (blk_far (blk_far BF5.out HBA.out.2 _) HBA.out.2 _) _⟩,⟨below_alloc (below_set (below_set HB5.out HBA.out.1) HBA.out.1) _⟩,⟨?_⟩⟩
         ·refine Kd.R_reok rfl (Kd.R_below (Kd.R_far (Kd.R_far HO5.out (fun k hk=>hk.2) _) (fun k hk=>hk.2) _) (below_alloc (Below.refl _ _) _)) (fun k hk=>?_)
          have h1:=Kd.R_lt HO5.out k hk
          have h2:=(HO5.out.1 k hk).1
          simp at *
          omega
         ·have:=HB5.out.size
          have:=HSZ5.out
          have:=HSZ1.out
          simp at *
          omega
end Go.Proofs.YtckjlckhjcbddaaGreat.PG3
