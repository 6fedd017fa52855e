import Derived.Test.YtckjlckhjcbddaaPH3x0
import Derived.Test.YtckjlckhjcbddaaPH3x3
import Derived.Test.YtckjlckhjcbddaaPH3x4
import Derived.Test.YtckjlckhjcbddaaPH3x5
import Derived.Test.YtckjlckhjcbddaaPH3x6
import Derived.Test.YtckjlckhjcbddaaPH3x7
set_option maxRecDepth 100000
namespace Go.Proofs.Ytckjlckhjcbddaa.PH3
open Go.RowKit Go.Proofs.YtckjlckhjcbddaaW.PrintWords Go.Proofs.YtckjlckhjcbddaaW.PrintLast Go.Proofs.YtckjlckhjcbddaaW.PrintMore
attribute [local go_sem] max2_int min2_int max_two min_two max_three min_three max_four min_four
private theorem run_ix72_0 (w:World) (a b c d:Value):(Instr.index 72 (.agg #[a,b,c,d]) (.int .i64 0)).run Try.prog w = .ok (.agg #[a,b]) w:=by
 simp [Instr.index,go_sem,Try.isAgg31,Try.sizeOf31]
private theorem run_ix72_1 (w:World) (a b c d:Value):(Instr.index 72 (.agg #[a,b,c,d]) (.int .i64 1)).run Try.prog w = .ok (.agg #[c,d]) w:=by
 simp [Instr.index,go_sem,Try.isAgg31,Try.sizeOf31]
private theorem run_fd31_0 (w:World) (a b:Value):(Instr.field 31 (.agg #[a,b]) 0).run Try.prog w = .ok a w:=by
 simp [Instr.field,go_sem,asAgg,Try.isAgg3,Try.sizeOf3]
private theorem run_fd31_1 (w:World) (a b:Value):(Instr.field 31 (.agg #[a,b]) 1).run Try.prog w = .ok b w:=by
 simp [Instr.field,go_sem,asAgg,Try.isAgg3,Try.sizeOf3]
attribute [local go_sem high] run_ix72_0 run_ix72_1 run_fd31_0 run_fd31_1
set_option linter.unusedVariables false
set_option linter.unusedSimpArgs false
def idxFromX (p : S36 → Bool) : List S36 → Int → Int
 | [],_=>-1
 | x::xs,i=>if p x then i else idxFromX p xs (i+1)
theorem idxFromX_nonneg (p : S36 → Bool) : ∀ (xs : List S36) (i : Int), 0 ≤ i → (decide (0 ≤ idxFromX p xs i) = xs.any p)
 | [],i,_=>by simp [idxFromX]
 | x::xs,i,h=>by
  unfold idxFromX
  by_cases hx:p x=true
  ·simp [hx,h]
  ·simp [hx,idxFromX_nonneg p xs (i+1) (by omega)]
theorem rd_dropX (xs:List S36) (i:Nat) (h:i<xs.length):xs.drop i=rd_T36 xs (i:Int)::xs.drop (i+1):=by
 rw [List.drop_eq_getElem_cons h]
 congr 1
 simp [rd_T36,List.getD_eq_getElem?_getD,List.getElem?_eq_getElem h]
set_option maxHeartbeats 2000000 in
theorem IndexFunc_prs (g : Nat) (lb : Array Value) (p : S36 → Bool) (eg : ∀ args w, (callFunc g args).run Try.prog w = .ok (.enter g args) w) (A0 : Option Addr) (c0 : Nat) (l0 : List S36) (w : World)
  (hp : ∀ (W:World) (x:S36),Below w.heap.size w W→Calls Try.prog g (#[.agg #[.int .i64 x.f0,.int .i64 x.f1]]++lb) W fun e w'=>e = .returned (.bool (p x))∧Below w.heap.size w w')
  (hr0:Kd.C k36 w A0 l0.length l0) (hlen:l0.length≤9223372036854775807) :
  Calls Try.prog 48 #[.slice A0 l0.length c0,.func (.func g) #[] lb] w fun e w'=>e = .returned (.int .i64 (idxFromX p l0 0))∧Below w.heap.size w w':=by
 have hu:=Try.underlying36
 have HR0:=aK hr0
 have HP:=aK hp
 clear hr0 hp
 have HB:=aK (Below.refl w.heap.size w)
 go_enter Try.func48,Try.ntmps48
 go_wp2
 go_loopg [8] l0.length (fun gg s8 wr=>∃ kk:Nat,kk≤l0.length∧l0.length-kk≤gg∧s8 = .int .i64 kk∧Aside0 (idxFromX p l0 0=idxFromX p (l0.drop kk) kk)∧Aside0 (Below w.heap.size w wr))
 case atStart=>exact ⟨0,Nat.zero_le _,by omega,rfl,⟨rfl⟩,HB⟩
 case round =>
  obtain ⟨kk,hkk,hg,rfl,HI,HB⟩:=hrel
  by_cases hlt:kk<l0.length
  ·have hlti:(kk:Int)<(l0.length:Int):=by omega
   obtain ⟨ad,rfl,hx0,hx1⟩:=at_T36 HR0.out (kk:Int) (by omega) hlti
   have hcall:=HP.out wr (rd_T36 l0 (kk:Int)) HB.out
   have hd:=rd_dropX l0 kk hlt
   have HI2:Aside0 (idxFromX p l0 0=if p (rd_T36 l0 (kk:Int)) then (kk:Int) else idxFromX p (l0.drop (kk+1)) ((kk:Int)+1)):=⟨by rw [HI.out,hd];rfl⟩
   clear HI hd
   have hx0':=(HB.out.cell (World.block_lt_of_cell? w _ hx0)).trans hx0
   have hx1':=(HB.out.cell (World.block_lt_of_cell? w _ hx1)).trans hx1
   clear hx0 hx1
   simp only [Int.toNat_natCast] at hx0' hx1'
   generalize rd_T36 l0 (kk:Int)=x at *
   cases hq:p x with
   | true =>
    rw [hq] at hcall
    have hi:idxFromX p l0 0=(kk:Int):=by have:=HI2.out;rw [hq] at this;exact this
    have HI3:=aK hi
    clear hi HI2 hq
    go_wp2_with fail
    refine hcall.mono ?_
    clear hcall
    rintro e w' ⟨rfl,hb'⟩
    go_wp2
    go_ret
    exact ⟨by rw [HI3.out];rfl,hb'⟩
   | false =>
    rw [hq] at hcall
    have hi:idxFromX p l0 0=idxFromX p (l0.drop (kk+1)) ((kk:Int)+1):=by have:=HI2.out;rw [hq] at this;exact this
    have HI3:=aK hi
    clear hi HI2 hq
    go_wp2_with fail
    refine hcall.mono ?_
    clear hcall
    rintro e w' ⟨rfl,hb'⟩
    go_wp2
    go_roundg (l0.length-(kk+1))
    case measure=>omega
    case rel=>exact ⟨kk+1,by omega,by omega,by go_num,⟨HI3.out⟩,⟨hb'⟩⟩
  ·have hlti : ¬ (kk:Int)<(l0.length:Int):=by omega
   have hi:idxFromX p l0 0 = -1:=by rw [HI.out,List.drop_eq_nil_of_le (by omega)];rfl
   have HI3:=aK hi
   clear hi HI
   go_wp2
   go_ret
   exact ⟨by rw [HI3.out];rfl,HB.out⟩
set_option maxHeartbeats 2000000 in
theorem ContainsFunc_prs (g : Nat) (lb : Array Value) (p : S36 → Bool) (eg : ∀ args w, (callFunc g args).run Try.prog w = .ok (.enter g args) w) (A0 : Option Addr) (c0 : Nat) (l0 : List S36) (w : World)
  (hp : ∀ (W:World) (x:S36),Below w.heap.size w W→Calls Try.prog g (#[.agg #[.int .i64 x.f0,.int .i64 x.f1]]++lb) W fun e w'=>e = .returned (.bool (p x))∧Below w.heap.size w w')
  (hr0:Kd.C k36 w A0 l0.length l0) (hlen:l0.length≤9223372036854775807) :
  Calls Try.prog 28 #[.slice A0 l0.length c0,.func (.func g) #[] lb] w fun e w'=>e = .returned (.bool (l0.any p))∧Below w.heap.size w w':=by
 have hc:=IndexFunc_prs g lb p eg A0 c0 l0 w hp hr0 hlen
 have HA:=aK (idxFromX_nonneg p l0 0 (by omega))
 clear hp hr0
 generalize idxFromX p l0 0=n at *
 go_enter Try.func28,Try.ntmps28
 go_wp2_with fail
 refine hc.mono ?_
 clear hc
 rintro e w' ⟨rfl,hb'⟩
 go_wp2
 go_ret
 exact ⟨by rw [← HA.out];rfl,hb'⟩
def inSpan (i:Int) (x:S36):Bool:=decide (x.f0≤i) && decide (i<x.f1)
set_option maxHeartbeats 2000000 in
theorem hasX1_calls (i : Int) (b : Nat) (x : S36) (W : World) (h : W.heap[b]? = some (.cells #[.int .i64 i] 3 (0, 0))) :
  Calls Try.prog 29 #[.agg #[.int .i64 x.f0,.int .i64 x.f1],.pointer (some ⟨b,0,none⟩)] W fun e w'=>e = .returned (.bool (inSpan i x))∧Below W.heap.size W w':=by
 have hu:=Try.underlying36
 have K1:=blk_alloc h (.cells #[.int .i64 x.f0,.int .i64 x.f1] 36)
 have K2:=blk_new W (.cells #[.int .i64 x.f0,.int .i64 x.f1] 36)
 have p0:=(blk_cell K1 0).trans rfl
 have p1:=(blk_cell K2 0).trans rfl
 have p2:=(blk_cell K2 1).trans rfl
 have HB:=aK (below_alloc (Below.refl W.heap.size W) (.cells #[.int .i64 x.f0,.int .i64 x.f1] 36))
 clear h K1 K2
 unfold inSpan
 obtain ⟨x0,x1⟩:=x
 simp only at *
 by_cases h0:x0≤i
 ·have d0:decide (x0≤i)=true:=decide_eq_true h0
  go_enter Try.func29,Try.ntmps29
  go_wp2
  go_ret
  exact ⟨by simp [d0],HB.out⟩
 ·have d0:decide (x0≤i)=false:=decide_eq_false h0
  go_enter Try.func29,Try.ntmps29
  go_wp2
  go_ret
  exact ⟨by simp [d0],HB.out⟩
def scan_Has.f (k:Nat) (l0:List S36) (a1:Int):Option (Bool×Int):=(scan_Valid.f k l0 256).bind fun v=>if v=true then (if l0.length≤1000000 then some (l0.any (inSpan a1),0) else none) else some (false,2)
theorem scan_Has.mono : ∀ a0 a1 k,LeO (scan_Has.f k a0 a1) (scan_Has.f (k+1) a0 a1):=by
 intro a0 a1 k
 unfold scan_Has.f
 exact LeO.bind (scan_Valid.mono _ _ _) (fun _=>LeO.refl _)
set_option maxHeartbeats 2000000 in
theorem scan_Has.calls (k : Nat) (A0 : Option Addr) (c0 : Nat) (l0 : List S36) (a1 : Int) (r1 : Bool) (r2 : Int) (w : World) (hr0 : Kd.C k36 w A0 l0.length l0) (hc0 : l0.length ≤ c0) (h : scan_Has.f k l0 a1 = some (r1, r2)) :
  Calls Try.prog 13 #[.slice A0 l0.length c0,.int .i64 a1] w fun e w'=>e = .returned (.tuple #[.bool r1,.int .i64 r2])∧Below w.heap.size w w':=by
 have hu:=Try.underlying36
 obtain ⟨v,hv,h⟩:=Option.bind_eq_some_iff.mp h
 have HV:=aK hv
 have K:=aK (blk_new w (.cells #[.int .i64 a1] 3))
 have HB:=aK (below_alloc (Below.refl w.heap.size w) (.cells #[.int .i64 a1] 3))
 have HR:=aK (Kd.C_below hr0 HB.out)
 have HC:=aK hc0
 clear hr0 hc0 hv
 cases v with
 | false =>
  simp only [Bool.false_eq_true,if_false,Option.some.injEq,Prod.mk.injEq] at h
  obtain ⟨rfl,rfl⟩:=h
  go_enter Try.func13,Try.ntmps13
  go_wp2_with fail
  refine (scan_Valid.calls k A0 c0 l0 256 false _ HR.out HC.out HV.out).mono ?_
  rintro e W1 ⟨rfl,hb⟩
  go_wp2
  go_ret2
  exact ⟨rfl,below_step HB.out hb⟩
 | true =>
  by_cases hl:l0.length≤1000000
  case neg=>rw [if_pos rfl,if_neg hl] at h;cases h
  rw [if_pos rfl,if_pos hl] at h
  simp only [Option.some.injEq,Prod.mk.injEq] at h
  obtain ⟨rfl,rfl⟩:=h
  have HL:=aK (show l0.length≤9223372036854775807 by omega)
  clear hl
  go_enter Try.func13,Try.ntmps13
  go_wp2_with fail
  refine (scan_Valid.calls k A0 c0 l0 256 true _ HR.out HC.out HV.out).mono ?_
  rintro e W1 ⟨rfl,hb⟩
  have HB1:=aK (below_step HB.out hb)
  have HR1:=aK (Kd.C_below HR.out hb)
  have K1:=aK (blk_below K.out hb)
  clear hb HB HR K
  go_wp2_with fail
  refine (ContainsFunc_prs 29 #[.pointer (some ⟨w.heap.size,0,none⟩)] (inSpan a1) (enters_own Try.func29 (by kernel_rfl) rfl) A0 c0 l0 W1 (fun W x hbW=>(hasX1_calls a1 w.heap.size x W (blk_below K1.out hbW)).mono (fun e w' he=>⟨he.1,below_step hbW he.2⟩)) HR1.out HL.out).mono ?_
  rintro e W2 ⟨rfl,hb⟩
  go_wp2
  go_ret2
  exact ⟨rfl,below_step HB1.out hb⟩
mutual
def scan_cover.j1 : Nat → List (S31) → Int → List Bool → Int → Int → Option (List Bool)
 | 0,_,_,_,_,_=>none
 | k+1,x0,x1,x2,x7,x8=>scan_cover.l1 k x0 x1 x2 x8 x7
def scan_cover.l1 : Nat → List (S31) → Int → List Bool → Int → Int → Option (List Bool)
 | 0,_,_,_,_,_=>none
 | k+1,x0,x1,x2,x8,x9=>if x9≤x8 then ((scan_middle.f x9).bind fun t193=>((pen_Has.f x0 t193 x1).bind fun t194=>(if t194=true then (if 0≤x9 then (if x9<(x2.length:Int) then (scan_cover.l1 k x0 x1 (x2.set (x9:Int).toNat true) x8 (wrap64 (x9+1))) else (none)) else (none)) else (some x2)))) else (some x2)
def scan_cover.l0 : Nat → List (S31) → Int → List Bool → Int → Int → Option (List Bool)
 | 0,_,_,_,_,_=>none
 | k+1,x0,x1,x2,x7,x8=>if x7≤x8 then ((scan_middle.f x7).bind fun t191=>((pen_Has.f x0 t191 x1).bind fun t192=>(if t192=true then (scan_cover.j1 k x0 x1 x2 x7 x8) else (scan_cover.l0 k x0 x1 x2 (wrap64 (x7+1)) x8)))) else (scan_cover.j1 k x0 x1 x2 x7 x8)
end
def scan_cover.f (k:Nat) (l0:List (S31)) (a1:Int) (l2:List Bool):Option (List Bool):=(flat_Bounds.f l0).bind fun bt184=>((scan_from.f bt184.1).bind fun t189=>((scan_from.f (wrap64 (bt184.2.2.1+1))).bind fun t190=>(scan_cover.l0 k l0 a1 l2 (mx t189 0) (mn (wrap64 (t190-1)) (wrap64 ((l2.length:Int)-1))))))
theorem scan_cover.mono_l : ∀ k, (∀ y0 y1 y2 y3 y4, LeO (scan_cover.j1 k y0 y1 y2 y3 y4) (scan_cover.j1 (k + 1) y0 y1 y2 y3 y4)) ∧ (∀ y0 y1 y2 y3 y4, LeO (scan_cover.l1 k y0 y1 y2 y3 y4) (scan_cover.l1 (k + 1) y0 y1 y2 y3 y4)) ∧ (∀ y0 y1 y2 y3 y4, LeO (scan_cover.l0 k y0 y1 y2 y3 y4) (scan_cover.l0 (k + 1) y0 y1 y2 y3 y4))
 | 0=>⟨fun _ _ _ _ _ r h=>by simp [scan_cover.j1] at h,fun _ _ _ _ _ r h=>by simp [scan_cover.l1] at h,fun _ _ _ _ _ r h=>by simp [scan_cover.l0] at h⟩
 | k+1=>by
  obtain ⟨ih0,ih1,ih2⟩:=scan_cover.mono_l k
  refine ⟨?_,?_,?_⟩
  ·intro y0 y1 y2 y3 y4
   unfold scan_cover.j1
   repeat' first
   | (with_reducible exact ih0 _ _ _ _ _)
   | (with_reducible exact ih1 _ _ _ _ _)
   | (with_reducible exact ih2 _ _ _ _ _)
   | (with_reducible exact LeO.refl _)
   | (with_reducible exact LeO.none _)
   | (with_reducible refine LeO.ite ?_ ?_)
   | (with_reducible refine LeO.bind ?_ (fun _=>?_))
   | exact ih0 _ _ _ _ _
   | exact ih1 _ _ _ _ _
   | exact ih2 _ _ _ _ _
   | exact LeO.none _
   | refine LeO.ite ?_ ?_
   | refine LeO.bind ?_ (fun _=>?_)
  ·intro y0 y1 y2 y3 y4
   unfold scan_cover.l1
   repeat' first
   | (with_reducible exact ih0 _ _ _ _ _)
   | (with_reducible exact ih1 _ _ _ _ _)
   | (with_reducible exact ih2 _ _ _ _ _)
   | (with_reducible exact LeO.refl _)
   | (with_reducible exact LeO.none _)
   | (with_reducible refine LeO.ite ?_ ?_)
   | (with_reducible refine LeO.bind ?_ (fun _=>?_))
   | exact ih0 _ _ _ _ _
   | exact ih1 _ _ _ _ _
   | exact ih2 _ _ _ _ _
   | exact LeO.none _
   | refine LeO.ite ?_ ?_
   | refine LeO.bind ?_ (fun _=>?_)
  ·intro y0 y1 y2 y3 y4
   unfold scan_cover.l0
   repeat' first
   | (with_reducible exact ih0 _ _ _ _ _)
   | (with_reducible exact ih1 _ _ _ _ _)
   | (with_reducible exact ih2 _ _ _ _ _)
   | (with_reducible exact LeO.refl _)
   | (with_reducible exact LeO.none _)
   | (with_reducible refine LeO.ite ?_ ?_)
   | (with_reducible refine LeO.bind ?_ (fun _=>?_))
   | exact ih0 _ _ _ _ _
   | exact ih1 _ _ _ _ _
   | exact ih2 _ _ _ _ _
   | exact LeO.none _
   | refine LeO.ite ?_ ?_
   | refine LeO.bind ?_ (fun _=>?_)
theorem scan_cover.mono : ∀ a0 a1 a2 k,LeO (scan_cover.f k a0 a1 a2) (scan_cover.f (k+1) a0 a1 a2):=by
 intro a0 a1 a2 k
 obtain ⟨ih0,ih1,ih2⟩:=scan_cover.mono_l k
 unfold scan_cover.f
 repeat' first
   | (with_reducible exact ih0 _ _ _ _ _)
   | (with_reducible exact ih1 _ _ _ _ _)
   | (with_reducible exact ih2 _ _ _ _ _)
   | (with_reducible exact LeO.refl _)
   | (with_reducible exact LeO.none _)
   | (with_reducible refine LeO.ite ?_ ?_)
   | (with_reducible refine LeO.bind ?_ (fun _=>?_))
   | exact ih0 _ _ _ _ _
   | exact ih1 _ _ _ _ _
   | exact ih2 _ _ _ _ _
   | exact LeO.none _
   | refine LeO.ite ?_ ?_
   | refine LeO.bind ?_ (fun _=>?_)
set_option maxHeartbeats 8000000 in
theorem scan_cover.calls (k : Nat) (A0 : Option Addr) (c0 : Nat) (l0 : List (S31)) (a1 : Int) (P2_ : Nat → Prop) (u9000_ : Value) (l2 : List Bool) (r : List Bool) (w0 w : World) (hB : Below w0.heap.size w0 w) (hr0 : ∀ W_, Kept w W_ (fun k_ => P2_ k_) → Kd.C k31 W_ A0 l0.length l0) (hc0 : l0.length ≤ c0) (ho2 : Kd.R Kd.bool 4 w w0.heap.size P2_ u9000_ l2) (h : scan_cover.f k l0 a1 l2 = some r) :
  Calls Try.prog 45 #[.slice A0 l0.length c0,.int .i64 a1,u9000_] w fun e w'=>e = .returned (.tuple #[])∧Kd.R Kd.bool 4 w' w0.heap.size (fun k_=>(P2_ k_∨w.heap.size≤k_)) u9000_ r∧Below w0.heap.size w0 w'∧Kept w w' (fun k_=>P2_ k_):=by
 obtain ⟨Ao13,co13,rfl⟩:=Kd.R_slice ho2
 have hu72:=Try.underlying72
 have hu31:=Try.underlying31
 have HR0:=aK hr0
 have HC0:=aK hc0
 clear hr0 hc0
 have HO2:=aK (show Kd.R Kd.bool 4 w w0.heap.size (fun k_=>(P2_ k_∨w.heap.size≤k_)) (.slice Ao13 l2.length co13) l2 from Kd.R_mono ho2 (fun k_ hk=>(.inl hk)))
 have HK:=aK (Kept.refl w (fun k_=>P2_ k_))
 have HW0:=aK hB.size
 have HB:=aK hB
 clear hB
 have H:((flat_Bounds.f l0).bind fun bt184=>((scan_from.f bt184.1).bind fun t189=>((scan_from.f (wrap64 (bt184.2.2.1+1))).bind fun t190=>(scan_cover.l0 k l0 a1 l2 (mx t189 0) (mn (wrap64 (t190-1)) (wrap64 ((l2.length:Int)-1)))))))=some r:=h
 clear h
 replace H:=Option.bind_eq_some_iff.mp H
 obtain ⟨⟨t184,t185,t186,t187⟩,A40,H⟩:=H
 replace H:((scan_from.f t184).bind fun t189=>((scan_from.f (wrap64 (t186+1))).bind fun t190=>(scan_cover.l0 k l0 a1 l2 (mx t189 0) (mn (wrap64 (t190-1)) (wrap64 ((l2.length:Int)-1))))))=some r:=H
 have A4:=aK A40
 clear A40
 replace H:=Option.bind_eq_some_iff.mp H
 obtain ⟨t189,A50,H⟩:=H
 replace H:((scan_from.f (wrap64 (t186+1))).bind fun t190=>(scan_cover.l0 k l0 a1 l2 (mx t189 0) (mn (wrap64 (t190-1)) (wrap64 ((l2.length:Int)-1)))))=some r:=H
 have A5:=aK A50
 clear A50
 obtain ⟨ji6,hji6⟩ : ∃ j_:Int,(mx t189 0)=j_:=⟨_,rfl⟩
 replace H:((scan_from.f (wrap64 (t186+1))).bind fun t190=>(scan_cover.l0 k l0 a1 l2 ji6 (mn (wrap64 (t190-1)) (wrap64 ((l2.length:Int)-1)))))=some r:=by first|(rw [hji6] at H;exact H)|(simp only [hji6] at H ⊢;exact H)
 (try rw [hji6] at A4)
 (try rw [hji6] at A5)
 (try (have hji6l:0≤ji6:=by (rw [← hji6];unfold mx;(repeat' split) <;> omega)))
 (try (have hji6m:0≤ji6:=by omega))
 have hji6_:(if t189<0 then 0 else t189)=ji6:=hji6
 replace H:=Option.bind_eq_some_iff.mp H
 obtain ⟨t190,A70,H⟩:=H
 replace H:(scan_cover.l0 k l0 a1 l2 ji6 (mn (wrap64 (t190-1)) (wrap64 ((l2.length:Int)-1))))=some r:=H
 have A7:=aK A70
 clear A70
 obtain ⟨ji8,hji8⟩ : ∃ j_:Int,(mn (wrap64 (t190-1)) (wrap64 ((l2.length:Int)-1)))=j_:=⟨_,rfl⟩
 replace H:(scan_cover.l0 k l0 a1 l2 ji6 ji8)=some r:=by first|(rw [hji8] at H;exact H)|(simp only [hji8] at H ⊢;exact H)
 (try rw [hji8] at A4)
 (try rw [hji8] at A5)
 (try rw [hji8] at A7)
 have hji8_:(if (wrap64 ((l2.length:Int)-1))<(wrap64 (t190-1)) then (wrap64 ((l2.length:Int)-1)) else (wrap64 (t190-1)))=ji8:=hji8
 have HC9:=aK H
 clear H
 go_enter Try.func45,Try.ntmps45
 go_upto_block 0 with (first|(go_at_call 44;(with_reducible refine (flat_Bounds.calls _ _ l0 t184 t185 t186 t187 _ ?side1 ?side2 A4.out).mono ?_);(case side1=>exact Kd.C_kept_now HR0.out (by repeat (first|(with_reducible first|exact HK.out|apply Kept.alloc|apply Kept.drewN|apply Kept.drew)|exact HK.out)));(case side2=>exact HC0.out);rintro e w10 ⟨rfl,hb⟩;have n0_:=aK (Kd.R_below (by (with_reducible repeat (first|apply Kd.R_alloc|apply Kd.R_drewN|apply Kd.R_drew));exact HO2.out) hb);have n1_:=aK (Kept.below (S:=(fun k_=>P2_ k_)) (by repeat (first|(with_reducible first|exact HK.out|apply Kept.alloc|apply Kept.drewN|apply Kept.drew)|exact HK.out)) hb);have n2_:=aK (below_step (by repeat (first|(with_reducible first|exact HB.out|apply below_alloc|apply pw_below_drewN|apply below_drew1)|exact HB.out)) hb);clear HO2;clear HK;clear HB;have HO2:=n0_;have HK:=n1_;have HB:=n2_;clear n0_ n1_ n2_;(try clear hb);(try clear hb2);(try clear hk);(try clear hi))|((with_reducible refine gate_dst (N:=6) rfl ?_);refine box_event ?hg (N:=6) ?hd (cs:=#[.int .i64 0,.int .i64 0,.int .i64 0,.int .i64 0]) (t:=72) ?hr ?_;(case hd=>rfl);(case hg=>rfl);(case hr=>first|(go_simp;done)|(go_simp;rfl));intro gb188 hg w11 hbox hb;have n0_:=aK (Kd.R_below (by (with_reducible repeat (first|apply Kd.R_alloc|apply Kd.R_drewN|apply Kd.R_drew));exact HO2.out) hb);have n1_:=aK (Kept.below (S:=(fun k_=>P2_ k_)) (by repeat (first|(with_reducible first|exact HK.out|apply Kept.alloc|apply Kept.drewN|apply Kept.drew)|exact HK.out)) hb);have n2_:=aK (below_step (by repeat (first|(with_reducible first|exact HB.out|apply below_alloc|apply pw_below_drewN|apply below_drew1)|exact HB.out)) hb);have n3_:=aK (hbox);have n4_:=aK ((by rw [hg];exact (by first|exact HK.out.1|exact (show Kept w _ (fun k_=>P2_ k_) from by repeat (first|(with_reducible first|exact HK.out|apply Kept.alloc|apply Kept.drewN|apply Kept.drew)|exact HK.out)).1):w.heap.size≤gb188));have n5_:=aK ((by rw [hg];exact (below_size (by repeat (first|(with_reducible first|exact HB.out|apply below_alloc|apply pw_below_drewN|apply below_drew1)|exact HB.out))):w0.heap.size≤gb188));clear HO2;clear HK;clear HB;have HO2:=n0_;have HK:=n1_;have HB:=n2_;have BK188:=n3_;have GW188:=n4_;have GE188:=n5_;clear n0_ n1_ n2_ n3_ n4_ n5_;clear hb hbox hg;have hcz12_0:w11.cell? ⟨gb188,0,none⟩=some (.int .i64 0):=(blk_cell BK188.out 0).trans rfl;have hcz12_1:w11.cell? ⟨gb188,1,none⟩=some (.int .i64 0):=(blk_cell BK188.out 1).trans rfl;have hcz12_2:w11.cell? ⟨gb188,2,none⟩=some (.int .i64 0):=(blk_cell BK188.out 2).trans rfl;have hcz12_3:w11.cell? ⟨gb188,3,none⟩=some (.int .i64 0):=(blk_cell BK188.out 3).trans rfl;have hfz12_0:=blk_frozen BK188.out 0;have hfz12_1:=blk_frozen BK188.out 1;have hfz12_2:=blk_frozen BK188.out 2;have hfz12_3:=blk_frozen BK188.out 3))
 repeat (go_quiet (first|(go_at_call 27;(with_reducible refine (scan_from.calls t184 t189 _ A5.out).mono ?_);rintro e w' ⟨rfl,⟨nd,rfl⟩⟩;(try first|exact ⟨rfl,_,World.drewN_drewN _ _ _⟩|exact ⟨rfl,_,Eq.trans (World.drewN_drewN _ _ _) (congrArg (World.drewN _) (Nat.add_assoc _ _ _))⟩))|(go_at_call 27;(with_reducible refine (scan_from.calls (wrap64 (t186+1)) t190 _ A7.out).mono ?_);rintro e w' ⟨rfl,⟨nd,rfl⟩⟩;(try first|exact ⟨rfl,_,World.drewN_drewN _ _ _⟩|exact ⟨rfl,_,Eq.trans (World.drewN_drewN _ _ _) (congrArg (World.drewN _) (Nat.add_assoc _ _ _))⟩)));go_upto_block 0 with (fail))
 (try simp only [Act.put,lS])
 go_cut [7] (fun v7 wc=>∃ (kq:Nat) (x7_8:Int),v7 = .int .i64 x7_8∧Aside0 (scan_cover.j1 kq l0 a1 l2 x7_8 ji8=some r)∧Aside0 (kq≤k)∧Aside0 (Kd.R Kd.bool 4 wc w0.heap.size (fun k_=>(P2_ k_∨w.heap.size≤k_)) (.slice Ao13 l2.length co13) l2)∧Aside0 (wc.heap[gb188]?=some (.cells #[.int .i64 t184,.int .i64 t185,.int .i64 t186,.int .i64 t187] 72 (0,0)))∧Aside0 (Kept w wc (fun k_=>P2_ k_))∧Aside0 (Below w0.heap.size w0 wc))
 case first =>
  have H:=HC9.out
  clear HC9
  have H':=aK H
  clear H
  go_wp2
  repeat (go_quiet (fail);try go_wp2)
  go_loopg [7] k (fun kq v7 w'=>∃ (x7_1:Int),v7 = .int .i64 x7_1∧Aside0 (scan_cover.l0 kq l0 a1 l2 x7_1 ji8=some r)∧Aside0 (kq≤k)∧Aside0 (Kd.R Kd.bool 4 w' w0.heap.size (fun k_=>(P2_ k_∨w.heap.size≤k_)) (.slice Ao13 l2.length co13) l2)∧Aside0 (w'.heap[gb188]?=some (.cells #[.int .i64 t184,.int .i64 t185,.int .i64 t186,.int .i64 t187] 72 (0,0)))∧Aside0 (Kept w w' (fun k_=>P2_ k_))∧Aside0 (Below w0.heap.size w0 w'))
  case atStart=>exact ⟨(ji6),(by first|rfl|(simp;done)|(simp only [← hji6] <;> (first|rfl|simp))|(simp [*];done)),H',⟨Nat.le_refl _⟩,⟨by (with_reducible repeat (first|apply Kd.R_alloc|apply Kd.R_drewN|apply Kd.R_drew));exact Kd.R_mono (Kd.R_far (p:=⟨gb188,3,none⟩) (Kd.R_far (p:=⟨gb188,2,none⟩) (Kd.R_far (p:=⟨gb188,1,none⟩) (Kd.R_far (p:=⟨gb188,0,none⟩) (Kd.R_types HO2.out BK188.out (by decide)) (fun _ hk=>hk.2) (.int .i64 t184)) (fun _ hk=>hk.2) (.int .i64 t185)) (fun _ hk=>hk.2) (.int .i64 t186)) (fun _ hk=>hk.2) (.int .i64 t187)) (fun _ hk=>hk.1)⟩,⟨by (with_reducible repeat (first|refine blk_drewN ?_ _|refine blk_drew ?_|refine blk_alloc ?_ _));refine blk_put (cs:=#[.int .i64 t184,.int .i64 t185,.int .i64 t186,.int .i64 0]) ?_ 3 _ rfl;(with_reducible repeat (first|refine blk_drewN ?_ _|refine blk_drew ?_|refine blk_alloc ?_ _));refine blk_put (cs:=#[.int .i64 t184,.int .i64 t185,.int .i64 0,.int .i64 0]) ?_ 2 _ rfl;(with_reducible repeat (first|refine blk_drewN ?_ _|refine blk_drew ?_|refine blk_alloc ?_ _));refine blk_put (cs:=#[.int .i64 t184,.int .i64 0,.int .i64 0,.int .i64 0]) ?_ 1 _ rfl;(with_reducible repeat (first|refine blk_drewN ?_ _|refine blk_drew ?_|refine blk_alloc ?_ _));refine blk_put (cs:=#[.int .i64 0,.int .i64 0,.int .i64 0,.int .i64 0]) ?_ 0 _ rfl;(with_reducible repeat (first|refine blk_drewN ?_ _|refine blk_drew ?_|refine blk_alloc ?_ _));exact BK188.out⟩,⟨by repeat (first|(with_reducible first|exact HK.out|apply Kept.alloc|apply Kept.drewN|apply Kept.drew|refine Kept.setCell ?_ (.inr GW188.out) _)|exact HK.out)⟩,⟨by repeat (first|(with_reducible first|exact HB.out|apply below_alloc|apply pw_below_drewN|apply below_drew1|refine below_set ?_ GE188.out)|exact HB.out)⟩⟩
  case round =>
   clear H'
   try clear p2
   try clear c4
   try clear p6
   try clear hcz12_0
   try clear hcz12_1
   try clear hcz12_2
   try clear hcz12_3
   try clear hfz12_0
   try clear hfz12_1
   try clear hfz12_2
   try clear hfz12_3
   obtain ⟨x7_1,rfl,HA,HK1,HO_2,BK188,HK,HB⟩:=hrel
   cases gk with
   | zero=>exact absurd HA.out (by simp [scan_cover.l0])
   | succ k1 =>
    have H:=HA.out
    clear HA
    simp only [scan_cover.l0] at H
    by_cases c14:x7_1≤ji8
    ·rw [if_pos c14] at H
     have c14b0:decide (x7_1≤ji8)=true:=decide_eq_true c14
     clear c14
     (first|rw [c14b0]|(simp only [i64_w,i32_w];rw [c14b0])|skip)
     replace H:=Option.bind_eq_some_iff.mp H
     obtain ⟨t191,A150,H⟩:=H
     replace H:((pen_Has.f l0 t191 a1).bind fun t192=>(if t192=true then (scan_cover.j1 k1 l0 a1 l2 x7_1 ji8) else (scan_cover.l0 k1 l0 a1 l2 (wrap64 (x7_1+1)) ji8)))=some r:=H
     have A15:=aK A150
     clear A150
     replace H:=Option.bind_eq_some_iff.mp H
     obtain ⟨t192,A160,H⟩:=H
     replace H:(if t192=true then (scan_cover.j1 k1 l0 a1 l2 x7_1 ji8) else (scan_cover.l0 k1 l0 a1 l2 (wrap64 (x7_1+1)) ji8))=some r:=H
     have A16:=aK A160
     clear A160
     by_cases c17:t192=true
     ·subst c17
      have H1:(scan_cover.j1 k1 l0 a1 l2 x7_1 ji8)=some r:=by rw [if_pos rfl] at H;exact H
      clear H
      have H:=H1
      clear H1
      have H':=aK H
      clear H
      go_wp2_with (first|(go_at_call 33;(with_reducible refine (scan_middle.calls x7_1 t191 _ A15.out).mono ?_);rintro e w' ⟨rfl,⟨nd,rfl⟩⟩;(try first|exact ⟨rfl,_,World.drewN_drewN _ _ _⟩|exact ⟨rfl,_,Eq.trans (World.drewN_drewN _ _ _) (congrArg (World.drewN _) (Nat.add_assoc _ _ _))⟩))|(go_at_call 59;(with_reducible refine (pen_Has.calls _ _ l0 t191 a1 true _ ?side1 ?side2 A16.out).mono ?_);(case side1=>exact Kd.C_kept_now HR0.out (by repeat (first|(with_reducible first|exact HK.out|apply Kept.alloc|apply Kept.drewN|apply Kept.drew|refine Kept.setCell ?_ (.inr GW188.out) _)|exact HK.out)));(case side2=>exact HC0.out);rintro e w18 ⟨rfl,hb⟩;have n0_:=aK (Kd.R_below (by (with_reducible repeat (first|apply Kd.R_alloc|apply Kd.R_drewN|apply Kd.R_drew));exact HO_2.out) hb);have n1_:=aK (blk_below (g:=gb188) (o:=.cells #[.int .i64 t184,.int .i64 t185,.int .i64 t186,.int .i64 t187] 72 (0,0)) (by (with_reducible repeat (first|refine blk_drewN ?_ _|refine blk_drew ?_|refine blk_alloc ?_ _));exact BK188.out) hb);have n2_:=aK (Kept.below (S:=(fun k_=>P2_ k_)) (by repeat (first|(with_reducible first|exact HK.out|apply Kept.alloc|apply Kept.drewN|apply Kept.drew|refine Kept.setCell ?_ (.inr GW188.out) _)|exact HK.out)) hb);have n3_:=aK (below_step (by repeat (first|(with_reducible first|exact HB.out|apply below_alloc|apply pw_below_drewN|apply below_drew1|refine below_set ?_ GE188.out)|exact HB.out)) hb);clear HO_2;clear BK188;clear HK;clear HB;have HO_2:=n0_;have BK188:=n1_;have HK:=n2_;have HB:=n3_;clear n0_ n1_ n2_ n3_;(try clear hb);(try clear hb2);(try clear hk);(try clear hi)))
      repeat (go_quiet (fail);try go_wp2_with (fail))
      go_meet
      case rel=>exact ⟨_,(x7_1),(by first|rfl|(simp;done)|(simp [*];done)),H',⟨by have:=HK1.out;first|omega|exact Nat.le_refl _⟩,⟨by (with_reducible repeat (first|apply Kd.R_alloc|apply Kd.R_drewN|apply Kd.R_drew));exact HO_2.out⟩,⟨by (with_reducible repeat (first|refine blk_drewN ?_ _|refine blk_drew ?_|refine blk_alloc ?_ _));exact BK188.out⟩,⟨by repeat (first|(with_reducible first|exact HK.out|apply Kept.alloc|apply Kept.drewN|apply Kept.drew|refine Kept.setCell ?_ (.inr GW188.out) _)|exact HK.out)⟩,⟨by repeat (first|(with_reducible first|exact HB.out|apply below_alloc|apply pw_below_drewN|apply below_drew1|refine below_set ?_ GE188.out)|exact HB.out)⟩⟩
     ·replace c17:=Bool.eq_false_iff.mpr c17
      subst c17
      have H1:(scan_cover.l0 k1 l0 a1 l2 (wrap64 (x7_1+1)) ji8)=some r:=by rw [if_neg (show ¬ (false=true) by decide)] at H;exact H
      clear H
      have H:=H1
      clear H1
      have H':=aK H
      clear H
      go_wp2_with (first|(go_at_call 33;(with_reducible refine (scan_middle.calls x7_1 t191 _ A15.out).mono ?_);rintro e w' ⟨rfl,⟨nd,rfl⟩⟩;(try first|exact ⟨rfl,_,World.drewN_drewN _ _ _⟩|exact ⟨rfl,_,Eq.trans (World.drewN_drewN _ _ _) (congrArg (World.drewN _) (Nat.add_assoc _ _ _))⟩))|(go_at_call 59;(with_reducible refine (pen_Has.calls _ _ l0 t191 a1 false _ ?side1 ?side2 A16.out).mono ?_);(case side1=>exact Kd.C_kept_now HR0.out (by repeat (first|(with_reducible first|exact HK.out|apply Kept.alloc|apply Kept.drewN|apply Kept.drew|refine Kept.setCell ?_ (.inr GW188.out) _)|exact HK.out)));(case side2=>exact HC0.out);rintro e w19 ⟨rfl,hb⟩;have n0_:=aK (Kd.R_below (by (with_reducible repeat (first|apply Kd.R_alloc|apply Kd.R_drewN|apply Kd.R_drew));exact HO_2.out) hb);have n1_:=aK (blk_below (g:=gb188) (o:=.cells #[.int .i64 t184,.int .i64 t185,.int .i64 t186,.int .i64 t187] 72 (0,0)) (by (with_reducible repeat (first|refine blk_drewN ?_ _|refine blk_drew ?_|refine blk_alloc ?_ _));exact BK188.out) hb);have n2_:=aK (Kept.below (S:=(fun k_=>P2_ k_)) (by repeat (first|(with_reducible first|exact HK.out|apply Kept.alloc|apply Kept.drewN|apply Kept.drew|refine Kept.setCell ?_ (.inr GW188.out) _)|exact HK.out)) hb);have n3_:=aK (below_step (by repeat (first|(with_reducible first|exact HB.out|apply below_alloc|apply pw_below_drewN|apply below_drew1|refine below_set ?_ GE188.out)|exact HB.out)) hb);clear HO_2;clear BK188;clear HK;clear HB;have HO_2:=n0_;have BK188:=n1_;have HK:=n2_;have HB:=n3_;clear n0_ n1_ n2_ n3_;(try clear hb);(try clear hb2);(try clear hk);(try clear hi)))
      repeat (go_quiet (fail);try go_wp2_with (fail))
      go_roundg k1
      case measure=>have:=HK1.out;omega
      case rel=>exact ⟨(wrap64 (x7_1+1)),(by first|rfl|(simp;done)|(simp [*];done)),H',⟨by have:=HK1.out;omega⟩,⟨by (with_reducible repeat (first|apply Kd.R_alloc|apply Kd.R_drewN|apply Kd.R_drew));exact HO_2.out⟩,⟨by (with_reducible repeat (first|refine blk_drewN ?_ _|refine blk_drew ?_|refine blk_alloc ?_ _));exact BK188.out⟩,⟨by repeat (first|(with_reducible first|exact HK.out|apply Kept.alloc|apply Kept.drewN|apply Kept.drew|refine Kept.setCell ?_ (.inr GW188.out) _)|exact HK.out)⟩,⟨by repeat (first|(with_reducible first|exact HB.out|apply below_alloc|apply pw_below_drewN|apply below_drew1|refine below_set ?_ GE188.out)|exact HB.out)⟩⟩
    ·rw [if_neg c14] at H
     have c14b0:decide (x7_1≤ji8)=false:=decide_eq_false c14
     clear c14
     (first|rw [c14b0]|(simp only [i64_w,i32_w];rw [c14b0])|skip)
     have H':=aK H
     clear H
     go_wp2
     repeat (go_quiet (fail);try go_wp2)
     go_meet
     case rel=>exact ⟨_,(x7_1),(by first|rfl|(simp;done)|(simp [*];done)),H',⟨by have:=HK1.out;first|omega|exact Nat.le_refl _⟩,⟨by (with_reducible repeat (first|apply Kd.R_alloc|apply Kd.R_drewN|apply Kd.R_drew));exact HO_2.out⟩,⟨by (with_reducible repeat (first|refine blk_drewN ?_ _|refine blk_drew ?_|refine blk_alloc ?_ _));exact BK188.out⟩,⟨by repeat (first|(with_reducible first|exact HK.out|apply Kept.alloc|apply Kept.drewN|apply Kept.drew|refine Kept.setCell ?_ (.inr GW188.out) _)|exact HK.out)⟩,⟨by repeat (first|(with_reducible first|exact HB.out|apply below_alloc|apply pw_below_drewN|apply below_drew1|refine below_set ?_ GE188.out)|exact HB.out)⟩⟩
 case rest =>
  clear HC9
  try clear c1
  try clear p2
  try clear c4
  try clear p6
  try clear c14
  try clear c14b0
  try clear c17
  try clear hcz12_0
  try clear hcz12_1
  try clear hcz12_2
  try clear hcz12_3
  try clear hfz12_0
  try clear hfz12_1
  try clear hfz12_2
  try clear hfz12_3
  try clear p2
  try clear p6
  obtain ⟨kq,x7_8,rfl,HA,HJ8,HO_2,BK188,HK,HB⟩:=hcut
  cases kq with
  | zero=>exact absurd HA.out (by simp [scan_cover.j1])
  | succ kj8 =>
   have H:=HA.out
   clear HA
   simp only [scan_cover.j1] at H
   have H':=aK H
   clear H
   go_wp2
   repeat (go_quiet (fail);try go_wp2)
   go_loopg [9] kj8 (fun kq v9 w'=>∃ (x2_2:List Bool) (x9_2:Int),v9 = .int .i64 x9_2∧Aside0 (scan_cover.l1 kq l0 a1 x2_2 ji8 x9_2=some r)∧Aside0 (kq≤kj8)∧Aside0 (Kd.R Kd.bool 4 w' w0.heap.size (fun k_=>(P2_ k_∨w.heap.size≤k_)) (.slice Ao13 l2.length co13) x2_2)∧Aside0 (w'.heap[gb188]?=some (.cells #[.int .i64 t184,.int .i64 t185,.int .i64 t186,.int .i64 t187] 72 (0,0)))∧Aside0 (Kept w w' (fun k_=>P2_ k_))∧Aside0 (Below w0.heap.size w0 w'))
   case atStart=>exact ⟨(l2),(x7_8),(by first|rfl|(simp;done)|(simp [*];done)),H',⟨Nat.le_refl _⟩,⟨by (with_reducible repeat (first|apply Kd.R_alloc|apply Kd.R_drewN|apply Kd.R_drew));exact HO_2.out⟩,⟨by (with_reducible repeat (first|refine blk_drewN ?_ _|refine blk_drew ?_|refine blk_alloc ?_ _));exact BK188.out⟩,⟨by repeat (first|(with_reducible first|exact HK.out|apply Kept.alloc|apply Kept.drewN|apply Kept.drew|refine Kept.setCell ?_ (.inr GW188.out) _)|exact HK.out)⟩,⟨by repeat (first|(with_reducible first|exact HB.out|apply below_alloc|apply pw_below_drewN|apply below_drew1|refine below_set ?_ GE188.out)|exact HB.out)⟩⟩
   case round =>
    clear H'
    try clear c1
    try clear p2
    try clear c4
    try clear p6
    try clear c14
    try clear c14b0
    try clear c17
    try clear hcz12_0
    try clear hcz12_1
    try clear hcz12_2
    try clear hcz12_3
    try clear hfz12_0
    try clear hfz12_1
    try clear hfz12_2
    try clear hfz12_3
    try clear p2
    try clear p6
    obtain ⟨x2_2,x9_2,rfl,HA,HK2,HO_2,BK188,HK,HB⟩:=hrel
    have hl2_2:=(Kd.R_reads' HO_2.out).1
    rw [hl2_2] at HO_2
    (try simp only [hl2_2])
    (try simp only [hl2_2] at BK188)
    cases gk with
    | zero=>exact absurd HA.out (by simp [scan_cover.l1])
    | succ k2 =>
     have H:=HA.out
     clear HA
     simp only [scan_cover.l1] at H
     by_cases c20:x9_2≤ji8
     ·rw [if_pos c20] at H
      have c20b0:decide (x9_2≤ji8)=true:=decide_eq_true c20
      clear c20
      replace H:=Option.bind_eq_some_iff.mp H
      obtain ⟨t193,A210,H⟩:=H
      replace H:((pen_Has.f l0 t193 a1).bind fun t194=>(if t194=true then (if 0≤x9_2 then (if x9_2<(x2_2.length:Int) then (scan_cover.l1 k2 l0 a1 (x2_2.set (x9_2:Int).toNat true) ji8 (wrap64 (x9_2+1))) else (none)) else (none)) else (some x2_2)))=some r:=H
      have A21:=aK A210
      clear A210
      replace H:=Option.bind_eq_some_iff.mp H
      obtain ⟨t194,A220,H⟩:=H
      replace H:(if t194=true then (if 0≤x9_2 then (if x9_2<(x2_2.length:Int) then (scan_cover.l1 k2 l0 a1 (x2_2.set (x9_2:Int).toNat true) ji8 (wrap64 (x9_2+1))) else (none)) else (none)) else (some x2_2))=some r:=H
      have A22:=aK A220
      clear A220
      by_cases c23:t194=true
      ·subst c23
       have H1:(if 0≤x9_2 then (if x9_2<(x2_2.length:Int) then (scan_cover.l1 k2 l0 a1 (x2_2.set (x9_2:Int).toNat true) ji8 (wrap64 (x9_2+1))) else (none)) else (none))=some r:=by rw [if_pos rfl] at H;exact H
       clear H
       have H:=H1
       clear H1
       by_cases c24:0≤x9_2
       ·rw [if_pos c24] at H
        have c24b0:decide (0≤x9_2)=true:=decide_eq_true c24
        clear c24
        by_cases c25:x9_2<(x2_2.length:Int)
        ·rw [if_pos c25] at H
         have c25b0:decide (x9_2<(x2_2.length:Int))=true:=decide_eq_true c25
         clear c25
         obtain ⟨y195,hy195⟩ : ∃ y_:List Bool,y_=(x2_2.set (x9_2:Int).toNat true):=⟨_,rfl⟩
         replace H:(scan_cover.l1 k2 l0 a1 y195 ji8 (wrap64 (x9_2+1)))=some r:=by first|(rw [hy195];with_reducible exact H)|(have H2_:=(Option.bind_some _ _).symm.trans H;rw [hy195];with_reducible exact H2_)|(have H2_:=(Option.bind_some _ _).symm.trans H;with_reducible exact H2_)|with_reducible exact H|(rw [hy195];exact H)|exact H
         have Ny195:=aK hy195
         clear hy195
         have H':=aK H
         clear H
         go_wp2_with (first|(go_at_call 33;(with_reducible refine (scan_middle.calls x9_2 t193 _ A21.out).mono ?_);rintro e w' ⟨rfl,⟨nd,rfl⟩⟩;(try first|exact ⟨rfl,_,World.drewN_drewN _ _ _⟩|exact ⟨rfl,_,Eq.trans (World.drewN_drewN _ _ _) (congrArg (World.drewN _) (Nat.add_assoc _ _ _))⟩))|(go_at_call 59;(with_reducible refine (pen_Has.calls _ _ l0 t193 a1 true _ ?side1 ?side2 A22.out).mono ?_);(case side1=>exact Kd.C_kept_now HR0.out (by repeat (first|(with_reducible first|exact HK.out|apply Kept.alloc|apply Kept.drewN|apply Kept.drew|refine Kept.setCell ?_ (.inr GW188.out) _)|exact HK.out)));(case side2=>exact HC0.out);rintro e w27 ⟨rfl,hb⟩;have n0_:=aK (Kd.R_below (by (with_reducible repeat (first|apply Kd.R_alloc|apply Kd.R_drewN|apply Kd.R_drew));exact HO_2.out) hb);have n1_:=aK (blk_below (g:=gb188) (o:=.cells #[.int .i64 t184,.int .i64 t185,.int .i64 t186,.int .i64 t187] 72 (0,0)) (by (with_reducible repeat (first|refine blk_drewN ?_ _|refine blk_drew ?_|refine blk_alloc ?_ _));exact BK188.out) hb);have n2_:=aK (Kept.below (S:=(fun k_=>P2_ k_)) (by repeat (first|(with_reducible first|exact HK.out|apply Kept.alloc|apply Kept.drewN|apply Kept.drew|refine Kept.setCell ?_ (.inr GW188.out) _)|exact HK.out)) hb);have n3_:=aK (below_step (by repeat (first|(with_reducible first|exact HB.out|apply below_alloc|apply pw_below_drewN|apply below_drew1|refine below_set ?_ GE188.out)|exact HB.out)) hb);clear HO_2;clear BK188;clear HK;clear HB;have HO_2:=n0_;have BK188:=n1_;have HK:=n2_;have HB:=n3_;clear n0_ n1_ n2_ n3_;(try clear hb);(try clear hb2);(try clear hk);(try clear hi);have p26:0≤(x9_2:Int):=of_decide_eq_true (by first|(with_reducible assumption)|assumption);have q26:(x9_2:Int)<((x2_2.length:Int):Int):=of_decide_eq_true (by first|(with_reducible assumption)|assumption);obtain ⟨go26,co26,eo26,gb26,gl26,cl26,HG26⟩:=Kd.R_form HO_2.out (by omega);(first|cases eo26|(injection eo26 with ea_ en_ ec_;(first|subst ea_|(injection ea_ with ea_;subst ea_));subst ec_;clear en_));have GB26:=aK gb26;have GG26:=aK HG26;clear gb26 gl26 HG26;have HMgo26:=aK (show (P2_ go26∨w.heap.size≤go26) from (HO_2.out.1 _ rfl));obtain ⟨hx26_0,hf26_0⟩:=Kd.R_celln false HO_2.out (x9_2:Int) p26 q26;replace p26:=eq_true p26;replace q26:=eq_true q26;obtain ⟨hy28_,hz28_⟩:=Kd.R_celln false HO_2.out (x9_2:Int) (of_decide_eq_true (by first|(with_reducible assumption)|assumption)) (of_decide_eq_true (by first|(with_reducible assumption)|assumption));have HP28:=Kd.R_putg HO_2.out (x9_2:Int) true)|((with_reducible refine gate_store (t:=4) (p:=57) rfl ?_);(try (rw [drewN_self w27];generalize hq_:World.drewN w27 _=w27;have n0_:=aK (Kd.R_at hq_ HO_2.out);have n1_:=aK (blk_at hq_ BK188.out);have n2_:=aK (kept_at hq_ HK.out);have n3_:=aK (below_at hq_ HB.out);clear hq_ HO_2 BK188 HK HB;have HO_2:=n0_;have BK188:=n1_;have HK:=n2_;have HB:=n3_;clear n0_ n1_ n2_ n3_;(try (obtain ⟨hy28_,hz28_⟩:=Kd.R_celln false HO_2.out (x9_2:Int) (of_decide_eq_true (by first|(with_reducible assumption)|assumption)) (of_decide_eq_true (by first|(with_reducible assumption)|assumption))));(try (have HP28:=Kd.R_putg HO_2.out (x9_2:Int) true))));refine store_event (t:=4) (p:=57) (v:=?vo_w29) (w1:=(w27.setCell ⟨go26,(x9_2:Int).toNat,none⟩ (.bool true))) ?hg ?ho ?hn ?hr ?_;(case ho=>rfl);(case hg=>rfl);(case hn=>rfl);(case hr=>first|(go_simp;done)|(go_simp;rfl));intro w29 hw;have hg:w27.grownBy w29 (some go26):=(by rw [hw];exact HP28.2);have hp_:Kd.R Kd.bool 4 w29 w0.heap.size (fun k_=>(P2_ k_∨w.heap.size≤k_)) (.slice (some ⟨go26,0,none⟩) x2_2.length co13) y195:=(by rw [hw,Ny195.out];exact HP28.1);clear HP28;have n0_:=aK (hp_);have n1_:=aK (blk_grown (g:=gb188) (o:=.cells #[.int .i64 t184,.int .i64 t185,.int .i64 t186,.int .i64 t187] 72 (0,0)) (by (with_reducible repeat (first|refine blk_drewN ?_ _|refine blk_drew ?_|refine blk_alloc ?_ _));exact BK188.out) hg (Kd.R_ne HO_2.out BK188.out (by decide)));have n2_:=aK ((by rw [hw];exact below_set (HB.out) GB26.out:Below w0.heap.size w0 w29));have n3_:=aK (Kept.of_grown (S:=(fun k_=>P2_ k_)) hg (by repeat (first|(with_reducible first|exact HK.out|apply Kept.alloc|apply Kept.drewN|apply Kept.drew|refine Kept.setCell ?_ (.inr GW188.out) _)|exact HK.out)) (fun k_ e_=>(HO_2.out.1 k_ e_)));clear HO_2;clear BK188;clear HB;clear HK;have HO_2:=n0_;have BK188:=n1_;have HB:=n2_;have HK:=n3_;clear n0_ n1_ n2_ n3_;clear hg hw hp_))
         repeat (go_quiet (fail);try go_wp2_with (fail))
         (try simp only [← hl2_2])
         go_roundg k2
         case measure=>have:=HJ8.out;have:=HK2.out;omega
         case rel=>exact ⟨(y195),(wrap64 (x9_2+1)),(by first|rfl|(simp;done)|(simp [*];done)),H',⟨by have:=HJ8.out;have:=HK2.out;omega⟩,⟨by (try simp only [hl2_2]);(with_reducible repeat (first|apply Kd.R_alloc|apply Kd.R_drewN|apply Kd.R_drew));exact HO_2.out⟩,⟨by (try simp only [hl2_2]);(with_reducible repeat (first|refine blk_drewN ?_ _|refine blk_drew ?_|refine blk_alloc ?_ _));exact BK188.out⟩,⟨by repeat (first|(with_reducible first|exact HK.out|apply Kept.alloc|apply Kept.drewN|apply Kept.drew|refine Kept.setCell ?_ (.inr GW188.out) _)|exact HK.out)⟩,⟨by repeat (first|(with_reducible first|exact HB.out|apply below_alloc|apply pw_below_drewN|apply below_drew1|refine below_set ?_ GE188.out)|exact HB.out)⟩⟩
        ·rw [if_neg c25] at H
         exact absurd H (by simp)
       ·rw [if_neg c24] at H
        exact absurd H (by simp)
      ·replace c23:=Bool.eq_false_iff.mpr c23
       subst c23
       have H1:(some x2_2)=some r:=by rw [if_neg (show ¬ (false=true) by decide)] at H;exact H
       clear H
       have H:=H1
       clear H1
       obtain rfl:=Option.some.inj H
       go_wp2_with (first|(go_at_call 33;(with_reducible refine (scan_middle.calls x9_2 t193 _ A21.out).mono ?_);rintro e w' ⟨rfl,⟨nd,rfl⟩⟩;(try first|exact ⟨rfl,_,World.drewN_drewN _ _ _⟩|exact ⟨rfl,_,Eq.trans (World.drewN_drewN _ _ _) (congrArg (World.drewN _) (Nat.add_assoc _ _ _))⟩))|(go_at_call 59;(with_reducible refine (pen_Has.calls _ _ l0 t193 a1 false _ ?side1 ?side2 A22.out).mono ?_);(case side1=>exact Kd.C_kept_now HR0.out (by repeat (first|(with_reducible first|exact HK.out|apply Kept.alloc|apply Kept.drewN|apply Kept.drew|refine Kept.setCell ?_ (.inr GW188.out) _)|exact HK.out)));(case side2=>exact HC0.out);rintro e w30 ⟨rfl,hb⟩;have n0_:=aK (Kd.R_below (by (with_reducible repeat (first|apply Kd.R_alloc|apply Kd.R_drewN|apply Kd.R_drew));exact HO_2.out) hb);have n1_:=aK (blk_below (g:=gb188) (o:=.cells #[.int .i64 t184,.int .i64 t185,.int .i64 t186,.int .i64 t187] 72 (0,0)) (by (with_reducible repeat (first|refine blk_drewN ?_ _|refine blk_drew ?_|refine blk_alloc ?_ _));exact BK188.out) hb);have n2_:=aK (Kept.below (S:=(fun k_=>P2_ k_)) (by repeat (first|(with_reducible first|exact HK.out|apply Kept.alloc|apply Kept.drewN|apply Kept.drew|refine Kept.setCell ?_ (.inr GW188.out) _)|exact HK.out)) hb);have n3_:=aK (below_step (by repeat (first|(with_reducible first|exact HB.out|apply below_alloc|apply pw_below_drewN|apply below_drew1|refine below_set ?_ GE188.out)|exact HB.out)) hb);clear HO_2;clear BK188;clear HK;clear HB;have HO_2:=n0_;have BK188:=n1_;have HK:=n2_;have HB:=n3_;clear n0_ n1_ n2_ n3_;(try clear hb);(try clear hb2);(try clear hk);(try clear hi)))
       repeat (go_quiet (fail);try go_wp2_with (fail))
       first|go_end0|((try simp only [Exit.inBlock,Exit.then]);refine bodyPost_ret (results_none rfl _ _ _) rfl ?_)
       exact ⟨by first|rfl|(simp [errW_none,errW_some] <;> rfl)|(simp only [← hji6,← hji8];first|rfl|(simp [errW_none,errW_some] <;> rfl))|(simp [*,errW_none,errW_some] <;> rfl),(by first|exact (by (with_reducible repeat (first|apply Kd.R_alloc|apply Kd.R_drewN|apply Kd.R_drew));exact HO_2.out)|(simp only [hl2_2];exact (by (with_reducible repeat (first|apply Kd.R_alloc|apply Kd.R_drewN|apply Kd.R_drew));exact HO_2.out))),by repeat (first|(with_reducible first|exact HB.out|apply below_alloc|apply pw_below_drewN|apply below_drew1|refine below_set ?_ GE188.out)|exact HB.out),by repeat (first|(with_reducible first|exact HK.out|apply Kept.alloc|apply Kept.drewN|apply Kept.drew|refine Kept.setCell ?_ (.inr GW188.out) _)|exact HK.out)⟩
     ·rw [if_neg c20] at H
      have c20b0:decide (x9_2≤ji8)=false:=decide_eq_false c20
      clear c20
      obtain rfl:=Option.some.inj H
      go_wp2
      repeat (go_quiet (fail);try go_wp2)
      first|go_end0|((try simp only [Exit.inBlock,Exit.then]);refine bodyPost_ret (results_none rfl _ _ _) rfl ?_)
      exact ⟨by first|rfl|(simp [errW_none,errW_some] <;> rfl)|(simp only [← hji6,← hji8];first|rfl|(simp [errW_none,errW_some] <;> rfl))|(simp [*,errW_none,errW_some] <;> rfl),(by first|exact (by (with_reducible repeat (first|apply Kd.R_alloc|apply Kd.R_drewN|apply Kd.R_drew));exact HO_2.out)|(simp only [hl2_2];exact (by (with_reducible repeat (first|apply Kd.R_alloc|apply Kd.R_drewN|apply Kd.R_drew));exact HO_2.out))),by repeat (first|(with_reducible first|exact HB.out|apply below_alloc|apply pw_below_drewN|apply below_drew1|refine below_set ?_ GE188.out)|exact HB.out),by repeat (first|(with_reducible first|exact HK.out|apply Kept.alloc|apply Kept.drewN|apply Kept.drew|refine Kept.setCell ?_ (.inr GW188.out) _)|exact HK.out)⟩
end Go.Proofs.Ytckjlckhjcbddaa.PH3
