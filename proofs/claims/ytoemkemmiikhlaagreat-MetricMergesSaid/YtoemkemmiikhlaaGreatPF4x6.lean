import Derived.Test.YtoemkemmiikhlaaGreatPF4x0
import Derived.Test.YtoemkemmiikhlaaGreatPF4x5
set_option maxRecDepth 100000
namespace Go.Proofs.YtoemkemmiikhlaaGreat.PF4
open Go.RowKit Go.Proofs.YtoemkemmiikhlaaGreatW.PrintWords Go.Proofs.YtoemkemmiikhlaaGreatW.PrintLast Go.Proofs.YtoemkemmiikhlaaGreatW.PrintMore
attribute [local go_sem] max2_int min2_int max_two min_two max_three min_three max_four min_four
set_option linter.unusedVariables false
set_option linter.unusedSimpArgs false
def metric_number.l0 : Nat → Int → List Int → Int → Int → Option (Int)
 | 0,_,_,_,_=>none
 | k+1,x3,x6,x7,x8=>if x8<x7 then (if 0≤x8 then (if x8<(x6.length:Int) then (metric_number.l0 k (Go.bits .or .i64 (wrap64 (x3*256)) (wrap64 (rd x6 x8))) x6 x7 (wrap64 (x8+1))) else (none)) else (none)) else (some x3)
def metric_number.f (k:Nat) (l0:List Int):Option (Int):=metric_number.l0 k 0 l0 (l0.length:Int) 0
theorem metric_number.mono_l : ∀ k, (∀ y0 y1 y2 y3, LeO (metric_number.l0 k y0 y1 y2 y3) (metric_number.l0 (k + 1) y0 y1 y2 y3))
 | 0=>fun _ _ _ _ r h=>by simp [metric_number.l0] at h
 | k+1=>by
  have ih0:=metric_number.mono_l k
  ·intro y0 y1 y2 y3
   unfold metric_number.l0
   repeat' first
   | (with_reducible exact ih0 _ _ _ _)
   | (with_reducible exact LeO.refl _)
   | (with_reducible exact LeO.none _)
   | (with_reducible refine LeO.ite ?_ ?_)
   | (with_reducible refine LeO.bind ?_ (fun _=>?_))
   | exact ih0 _ _ _ _
   | exact LeO.none _
   | refine LeO.ite ?_ ?_
   | refine LeO.bind ?_ (fun _=>?_)
theorem metric_number.mono : ∀ a0 k,LeO (metric_number.f k a0) (metric_number.f (k+1) a0):=by
 intro a0 k
 have ih0:=metric_number.mono_l k
 unfold metric_number.f
 repeat' first
   | (with_reducible exact ih0 _ _ _ _)
   | (with_reducible exact LeO.refl _)
   | (with_reducible exact LeO.none _)
   | (with_reducible refine LeO.ite ?_ ?_)
   | (with_reducible refine LeO.bind ?_ (fun _=>?_))
   | exact ih0 _ _ _ _
   | exact LeO.none _
   | refine LeO.ite ?_ ?_
   | refine LeO.bind ?_ (fun _=>?_)
set_option maxHeartbeats 8000000 in
theorem metric_number.calls (k : Nat) (A0 : Option Addr) (c0 : Nat) (l0 : List Int) (r : Int) (w : World) (hr0 : Kd.C (Kd.int .u8) w A0 l0.length l0) (hc0 : l0.length ≤ c0) (h : metric_number.f k l0 = some r) :
  Calls Tryz.prog 89 #[.slice A0 l0.length c0] w fun e w'=>e = .returned (.int .i64 r)∧Drawn0 w w':=by
 have HR0:=aK hr0
 have HC0:=aK hc0
 clear hr0 hc0
 have H:(metric_number.l0 k 0 l0 (l0.length:Int) 0)=some r:=h
 clear h
 have H':=aK H
 clear H
 go_enter Tryz.func89,Tryz.ntmps89
 go_wp2
 go_loopg [3,8] k (fun kq v3 v8 w'=>∃ (x3_1:Int) (x8_1:Int),v3 = .int .i64 x3_1∧v8 = .int .i64 x8_1∧Aside0 (metric_number.l0 kq x3_1 l0 (l0.length:Int) x8_1=some r)∧Aside0 (kq≤k)∧Drawn0 w w')
 case atStart=>exact ⟨(0),(0),(by first|rfl|(simp;done)|(simp [*];done)),(by first|rfl|(simp;done)|(simp [*];done)),H',⟨Nat.le_refl _⟩,by repeat (first|exact Drawn0.refl _|apply Drawn0.step)⟩
 case round =>
  clear H'
  obtain ⟨x3_1,x8_1,rfl,rfl,HA,HK1,⟨m1,rfl⟩⟩:=hrel
  cases gk with
  | zero=>exact absurd HA.out (by simp [metric_number.l0])
  | succ k1 =>
   have H:=HA.out
   clear HA
   simp only [metric_number.l0] at H
   by_cases c2:x8_1<(l0.length:Int)
   ·rw [if_pos c2] at H
    have c2b0:decide (x8_1<(l0.length:Int))=true:=decide_eq_true c2
    clear c2
    by_cases c3:0≤x8_1
    ·rw [if_pos c3] at H
     have c3b0:decide (0≤x8_1)=true:=decide_eq_true c3
     clear c3
     by_cases c4:x8_1<(l0.length:Int)
     ·rw [if_pos c4] at H
      have c4b0:decide (x8_1<(l0.length:Int))=true:=decide_eq_true c4
      clear c4
      have H':=aK H
      clear H
      have p130:0≤(x8_1:Int):=of_decide_eq_true (by first|(with_reducible assumption)|assumption)
      have q130:x8_1<(l0.length:Int):=of_decide_eq_true (by first|(with_reducible assumption)|assumption)
      obtain ⟨ad130,e130,hx130_0⟩:=Kd.at_int HR0.out x8_1 p130 q130
      cases e130
      replace p130:=eq_true p130
      replace q130:=eq_true q130
      go_wp2
      go_roundg k1
      case measure=>have:=HK1.out;omega
      case rel=>exact ⟨(Go.bits .or .i64 (wrap64 (x3_1*256)) (wrap64 (rd l0 x8_1))),(wrap64 (x8_1+1)),(by first|rfl|(simp;done)|(simp [*];done)),(by first|rfl|(simp;done)|(simp [*];done)),H',⟨by have:=HK1.out;omega⟩,by repeat (first|exact Drawn0.refl _|apply Drawn0.step)⟩
     ·rw [if_neg c4] at H
      exact absurd H (by simp)
    ·rw [if_neg c3] at H
     exact absurd H (by simp)
   ·rw [if_neg c2] at H
    have c2b0:decide (x8_1<(l0.length:Int))=false:=decide_eq_false c2
    clear c2
    obtain rfl:=Option.some.inj H
    go_wp2
    go_ret
    exact ⟨by first|rfl|(simp;done)|(simp [*];done),by repeat (first|exact Drawn0.refl _|apply Drawn0.step)⟩
def numB (l:List Int):Int:=l.foldl (fun n c=>n*256+c) 0
def s32 (n:Int):Int:=if n<2147483648 then n else n-4294967296
def rd1 (s:List Int×Bool):Int×(List Int×Bool):=(numB (takeB 1 s).1,(takeB 1 s).2)
def rd2 (s:List Int×Bool):Int×(List Int×Bool):=(numB (takeB 2 s).1,(takeB 2 s).2)
def rd4 (s:List Int×Bool):Int×(List Int×Bool):=(s32 (numB (takeB 4 s).1),(takeB 4 s).2)
theorem or_step (acc c:Int) (h0:0≤acc) (h1:acc<1099511627776) (c0:0≤c) (c1:c<256):Go.bits .or .i64 (wrap64 (acc*256)) (wrap64 c)=acc*256+c:=by
 have e1:wrap64 (acc*256)=acc*256:=by unfold wrap64;omega
 have e2:wrap64 c=c:=by unfold wrap64;omega
 rw [e1,e2]
 refine Go.bits_join .i64 62 (by decide) (fun n h h'=>?_) 8 _ _ (by omega) (by omega) (by omega) c0 (by omega) (by omega)
 rw [i64_w]
 unfold wrap64
 omega
theorem numB_snoc (l:List Int) (c:Int):numB (l++[c])=numB l*256+c:=by
 unfold numB
 rw [List.foldl_append]
 rfl
theorem fold_range : ∀ (l : List Int) (acc : Int), IsBytes l → 0 ≤ acc → 0 ≤ l.foldl (fun n c => n * 256 + c) acc ∧ l.foldl (fun n c => n * 256 + c) acc < (acc + 1) * 256 ^ l.length
 | [],acc,_,h=>⟨h,by simp;omega⟩
 | c::l,acc,hb,h=>by
  have h2:=hb c (by simp)
  have h1:=fold_range l (acc*256+c) (fun x hx=>hb x (by simp [hx])) (by omega)
  refine ⟨h1.1,Int.lt_of_lt_of_le h1.2 ?_⟩
  have h3:(256:Int) ^ (c::l).length=256*256 ^ l.length:=by rw [List.length_cons,Int.pow_succ,Int.mul_comm]
  rw [h3,← Int.mul_assoc]
  exact Int.mul_le_mul_of_nonneg_right (by omega) (Int.le_of_lt (Int.pow_pos (by decide)))
theorem numB_range (l:List Int) (h:IsBytes l):0≤numB l∧numB l<256 ^ l.length:=by
 have:=fold_range l 0 h (Int.le_refl _)
 simpa [numB] using this
theorem number_loop (l : List Int) (hb : IsBytes l) (hl : l.length ≤ 5) : ∀ (d i : Nat), i + d = l.length → metric_number.l0 (d + 1) (numB (l.take i)) l (l.length : Int) (i : Int) = some (numB l)
 | 0,i,h=>by
  rw [metric_number.l0,if_neg (by omega),List.take_of_length_le (by omega)]
 | d+1,i,h=>by
  have hlt:i<l.length:=by omega
  have hr:=numB_range (l.take i) (fun c hc=>hb c (List.mem_of_mem_take hc))
  have hp:(256:Int) ^ (l.take i).length≤1099511627776:=by
   have h1:(l.take i).length≤4:=by rw [List.length_take];omega
   generalize (l.take i).length=m at *
   match m,h1 with
   | 0,_=>decide
   | 1,_=>decide
   | 2,_=>decide
   | 3,_=>decide
   | 4,_=>decide
  have hc:=hb l[i] (List.getElem_mem hlt)
  have hrd:rd l (i:Int)=l[i]:=by simp [rd,hlt]
  have hw:wrap64 ((i:Int)+1)=((i+1:Nat):Int):=by unfold wrap64;omega
  rw [metric_number.l0,if_pos (by omega),if_pos (by omega),if_pos (by omega),hrd,or_step _ _ hr.1 (by omega) hc.1 hc.2,hw,← numB_snoc,← List.take_succ_eq_append_getElem hlt]
  exact number_loop l hb hl d (i+1) (by omega)
theorem number_is (l:List Int) (hb:IsBytes l) (hl:l.length≤5):metric_number.f (l.length+1) l=some (numB l):=by
 have:=number_loop l hb hl l.length 0 (by omega)
 unfold metric_number.f
 simpa [numB] using this
theorem at_I8 {w:World} {A:Option Addr} {n:Nat} {xs:List Int} (h:Kd.C (Kd.int .u8) w A n xs) (i:Int) (h0:0≤i) (h1:i<n) : ∃ ad,A=some ad∧w.cell? (ad.add i.toNat)=some (.int .u8 (rd xs i)):=by
 obtain ⟨ad,c,e,_,hK,hc0⟩:=Kd.C_get h 0 i h0 h1
 have hc : ∀ j u,c[j]?=some u→w.cell? (ad.add (i.toNat*1+j))=some u:=hc0
 have hK':c=[Value.int .u8 (xs.getD i.toNat 0)]:=hK
 subst hK'
 refine ⟨ad,e,?_⟩
 have:=hc 0 _ rfl
 rw [Nat.mul_one,Nat.add_zero] at this
 exact this
set_option maxHeartbeats 4000000 in
theorem readOne (w0 : World) (b : Nat) (s : List Int × Bool) (W : World) (hB : Below w0.heap.size w0 W) (hbb : w0.heap.size ≤ b) (hR : RdAt w0 W b s) (hl : s.1.length ≤ 1000000000000) :
  Calls Tryz.prog 45 #[.pointer (some ⟨b,0,none⟩)] W fun e w'=>e = .returned (.int .i64 (rd1 s).1)∧RdAt w0 w' b (rd1 s).2∧Below w0.heap.size w0 w'∧KeepBut W w' b none:=by
 have ht:=take_calls w0 b 1 s W hB hbb hR (by decide) (by decide) hl
 have hby:IsBytes (takeB 1 s).1:=by
  obtain ⟨_,_,_,_,_,h⟩:=hR
  exact (takeB_bytes 1 s h).1
 have htl:=takeB_len 1 s
 have HRD:Aside0 (rd1 s=(numB (takeB 1 s).1,(takeB 1 s).2)):=⟨rfl⟩
 generalize rd1 s=rs at *
 generalize (takeB 1 s).2=s2 at *
 generalize (takeB 1 s).1=l at *
 have HT:=aK ht
 have HBY:=aK hby
 have HTL:=aK htl
 clear ht hby htl hR hB hbb hl
 go_enter Tryz.func45,Tryz.ntmps45
 go_wp2_with fail
 refine HT.out.mono ?_
 rintro e W1 ⟨A,c,rfl,hc,hC,hR1,hB1,hK1⟩
 have HR1:=aK hR1
 have HB1:=aK hB1
 have HK1:=aK hK1
 obtain ⟨x,rfl⟩ : ∃ x,l=[x]:=by
  match l,HTL.out with
  | [x],_=>exact ⟨x,rfl⟩
 obtain ⟨ad,rfl,hx⟩:=at_I8 hC 0 (by decide) (by decide)
 have e0:ad.add (0:Int).toNat=ad:=by cases ad;rfl
 have e1:rd [x] 0=x:=rfl
 rw [e0,e1] at hx
 have hx':=hx
 clear e0 e1
 have HX:Aside0 (numB [x]=x):=⟨by simp [numB]⟩
 have hr:=HBY.out x (by simp)
 have hw:wrap64 x=x:=by unfold wrap64;omega
 clear hc hC hx hR1 hB1 hK1 HT
 go_wp2
 go_ret
 rw [HRD.out]
 exact ⟨by rw [HX.out];rfl,HR1.out,HB1.out,HK1.out⟩
set_option maxHeartbeats 4000000 in
theorem readFour (w0 : World) (b : Nat) (s : List Int × Bool) (W : World) (hB : Below w0.heap.size w0 W) (hbb : w0.heap.size ≤ b) (hR : RdAt w0 W b s) (hl : s.1.length ≤ 1000000000000) :
  Calls Tryz.prog 42 #[.pointer (some ⟨b,0,none⟩)] W fun e w'=>e = .returned (.int .i64 (rd4 s).1)∧RdAt w0 w' b (rd4 s).2∧Below w0.heap.size w0 w'∧KeepBut W w' b none:=by
 have ht:=take_calls w0 b 4 s W hB hbb hR (by decide) (by decide) hl
 have hby:IsBytes (takeB 4 s).1:=by
  obtain ⟨_,_,_,_,_,h⟩:=hR
  exact (takeB_bytes 4 s h).1
 have htl:=takeB_len 4 s
 have HRD:Aside0 (rd4 s=(s32 (numB (takeB 4 s).1),(takeB 4 s).2)):=⟨rfl⟩
 generalize rd4 s=rs at *
 generalize (takeB 4 s).2=s2 at *
 generalize (takeB 4 s).1=l at *
 have HT:=aK ht
 have HBY:=aK hby
 have HTL:=aK htl
 clear ht hby htl hR hB hbb hl
 go_enter Tryz.func42,Tryz.ntmps42
 go_wp2_with fail
 refine HT.out.mono ?_
 rintro e W1 ⟨A,c,rfl,hc,hC,hR1,hB1,hK1⟩
 have HR1:=aK hR1
 have HB1:=aK hB1
 have HK1:=aK hK1
 have hlen:=HTL.out
 have hn:=metric_number.calls 5 A c l (numB l) W1 (by rw [hlen];exact hC) (by rw [hlen];exact hc) (by have:=number_is l HBY.out (by omega);rw [hlen] at this;exact this)
 rw [hlen] at hn
 have hr:=numB_range l HBY.out
 rw [hlen] at hr
 have HS:Aside0 (IntKind.i32.wrap (numB l)=s32 (numB l)):=⟨by
  have h1:=hr.1
  have h2:numB l<4294967296:=hr.2
  unfold s32
  rw [i32_w]
  unfold wrap32
  split <;> omega⟩
 have HW:Aside0 (wrap64 (s32 (numB l))=s32 (numB l)):=⟨by
  have h1:=hr.1
  have h2:numB l<4294967296:=hr.2
  unfold s32 wrap64
  split <;> omega⟩
 have hs:=HS.out
 clear hr
 clear hc hC hR1 hB1 hK1 HT hlen
 go_wp2_with fail
 refine hn.mono ?_
 rintro e W2 ⟨rfl,⟨n2,rfl⟩⟩
 clear hn
 go_wp2
 go_ret
 rw [HRD.out]
 exact ⟨by show Ending.returned (.int .i64 (wrap64 (s32 (numB l))))=_;rw [HW.out],HR1.out.step rfl,pw_below_drewN HB1.out n2,HK1.out⟩
set_option maxHeartbeats 4000000 in
theorem readTwo (w0 : World) (b : Nat) (s : List Int × Bool) (W : World) (hB : Below w0.heap.size w0 W) (hbb : w0.heap.size ≤ b) (hR : RdAt w0 W b s) (hl : s.1.length ≤ 1000000000000) :
  Calls Tryz.prog 43 #[.pointer (some ⟨b,0,none⟩)] W fun e w'=>e = .returned (.int .i64 (rd2 s).1)∧RdAt w0 w' b (rd2 s).2∧Below w0.heap.size w0 w'∧KeepBut W w' b none:=by
 have ht:=take_calls w0 b 2 s W hB hbb hR (by decide) (by decide) hl
 have hby:IsBytes (takeB 2 s).1:=by
  obtain ⟨_,_,_,_,_,h⟩:=hR
  exact (takeB_bytes 2 s h).1
 have htl:=takeB_len 2 s
 have HRD:Aside0 (rd2 s=(numB (takeB 2 s).1,(takeB 2 s).2)):=⟨rfl⟩
 generalize rd2 s=rs at *
 generalize (takeB 2 s).2=s2 at *
 generalize (takeB 2 s).1=l at *
 have HT:=aK ht
 have HBY:=aK hby
 have HTL:=aK htl
 clear ht hby htl hR hB hbb hl
 go_enter Tryz.func43,Tryz.ntmps43
 go_wp2_with fail
 refine HT.out.mono ?_
 rintro e W1 ⟨A,c,rfl,hc,hC,hR1,hB1,hK1⟩
 have HR1:=aK hR1
 have HB1:=aK hB1
 have HK1:=aK hK1
 have hlen:=HTL.out
 have hn:=metric_number.calls 3 A c l (numB l) W1 (by rw [hlen];exact hC) (by rw [hlen];exact hc) (by have:=number_is l HBY.out (by omega);rw [hlen] at this;exact this)
 rw [hlen] at hn
 clear hc hC hR1 hB1 hK1 HT hlen
 go_wp2_with fail
 refine hn.mono ?_
 rintro e W2 ⟨rfl,⟨n2,rfl⟩⟩
 clear hn
 go_wp2
 go_ret
 rw [HRD.out]
 exact ⟨rfl,HR1.out.step rfl,pw_below_drewN HB1.out n2,HK1.out⟩
def slices_Equal_byte_byte.l0 : Nat → List Int → List Int → Int → Int → Option (Bool)
 | 0,_,_,_,_=>none
 | k+1,x0,x1,x12,x13=>if x13<x12 then (if 0≤x13 then (if x13<(x0.length:Int) then (if x13<(x1.length:Int) then (if (rd x0 x13)=(rd x1 x13) then (slices_Equal_byte_byte.l0 k x0 x1 x12 (wrap64 (x13+1))) else (some false)) else (none)) else (none)) else (none)) else (some true)
def slices_Equal_byte_byte.f (k:Nat) (l0:List Int) (l1:List Int):Option (Bool):=if (l0.length:Int)=(l1.length:Int) then (slices_Equal_byte_byte.l0 k l0 l1 (l0.length:Int) 0) else (some false)
theorem slices_Equal_byte_byte.mono_l : ∀ k, (∀ y0 y1 y2 y3, LeO (slices_Equal_byte_byte.l0 k y0 y1 y2 y3) (slices_Equal_byte_byte.l0 (k + 1) y0 y1 y2 y3))
 | 0=>fun _ _ _ _ r h=>by simp [slices_Equal_byte_byte.l0] at h
 | k+1=>by
  have ih0:=slices_Equal_byte_byte.mono_l k
  ·intro y0 y1 y2 y3
   unfold slices_Equal_byte_byte.l0
   repeat' first
   | (with_reducible exact ih0 _ _ _ _)
   | (with_reducible exact LeO.refl _)
   | (with_reducible exact LeO.none _)
   | (with_reducible refine LeO.ite ?_ ?_)
   | (with_reducible refine LeO.bind ?_ (fun _=>?_))
   | exact ih0 _ _ _ _
   | exact LeO.none _
   | refine LeO.ite ?_ ?_
   | refine LeO.bind ?_ (fun _=>?_)
theorem slices_Equal_byte_byte.mono : ∀ a0 a1 k,LeO (slices_Equal_byte_byte.f k a0 a1) (slices_Equal_byte_byte.f (k+1) a0 a1):=by
 intro a0 a1 k
 have ih0:=slices_Equal_byte_byte.mono_l k
 unfold slices_Equal_byte_byte.f
 repeat' first
   | (with_reducible exact ih0 _ _ _ _)
   | (with_reducible exact LeO.refl _)
   | (with_reducible exact LeO.none _)
   | (with_reducible refine LeO.ite ?_ ?_)
   | (with_reducible refine LeO.bind ?_ (fun _=>?_))
   | exact ih0 _ _ _ _
   | exact LeO.none _
   | refine LeO.ite ?_ ?_
   | refine LeO.bind ?_ (fun _=>?_)
set_option maxHeartbeats 8000000 in
theorem slices_Equal_byte_byte.calls (k : Nat) (A0 : Option Addr) (c0 : Nat) (l0 : List Int) (A1 : Option Addr) (c1 : Nat) (l1 : List Int) (r : Bool) (w : World) (hr0 : Kd.C (Kd.int .u8) w A0 l0.length l0) (hc0 : l0.length ≤ c0) (hr1 : Kd.C (Kd.int .u8) w A1 l1.length l1) (hc1 : l1.length ≤ c1) (h : slices_Equal_byte_byte.f k l0 l1 = some r) :
  Calls Tryz.prog 46 #[.slice A0 l0.length c0,.slice A1 l1.length c1] w fun e w'=>e = .returned (.bool r)∧Drawn0 w w':=by
 have HR0:=aK hr0
 have HC0:=aK hc0
 clear hr0 hc0
 have HR1:=aK hr1
 have HC1:=aK hc1
 clear hr1 hc1
 have H:(if (l0.length:Int)=(l1.length:Int) then (slices_Equal_byte_byte.l0 k l0 l1 (l0.length:Int) 0) else (some false))=some r:=h
 clear h
 by_cases c3:(l0.length:Int)=(l1.length:Int)
 ·rw [if_pos c3] at H
  have c3b0:((l0.length:Int) == (l1.length:Int))=true:=beq_iff_eq.mpr c3
  have c3b1:((l0.length:Int) != (l1.length:Int))=false:=bne_eq_false_iff_eq.mpr c3
  have c3b2:(l0.length == l1.length)=true:=by first|simpa using c3|(simp at c3 ⊢;omega)
  clear c3
  have H':=aK H
  clear H
  go_enter Tryz.func46,Tryz.ntmps46
  go_wp2
  repeat (go_quiet (fail);try go_wp2)
  go_loopg [13] k (fun kq v13 w'=>∃ (x13_1:Int),v13 = .int .i64 x13_1∧Aside0 (slices_Equal_byte_byte.l0 kq l0 l1 (l0.length:Int) x13_1=some r)∧Aside0 (kq≤k)∧Drawn0 w w')
  case atStart=>exact ⟨(0),(by first|rfl|(simp;done)|(simp [*];done)),H',⟨Nat.le_refl _⟩,by repeat (first|exact Drawn0.refl _|apply Drawn0.step)⟩
  case round =>
   clear H'
   try clear c1
   try clear p2
   try clear c3
   try clear c3b0
   try clear c3b1
   try clear c3b2
   obtain ⟨x13_1,rfl,HA,HK1,⟨m1,rfl⟩⟩:=hrel
   cases gk with
   | zero=>exact absurd HA.out (by simp [slices_Equal_byte_byte.l0])
   | succ k1 =>
    have H:=HA.out
    clear HA
    simp only [slices_Equal_byte_byte.l0] at H
    by_cases c4:x13_1<(l0.length:Int)
    ·rw [if_pos c4] at H
     have c4b0:decide (x13_1<(l0.length:Int))=true:=decide_eq_true c4
     clear c4
     by_cases c5:0≤x13_1
     ·rw [if_pos c5] at H
      have c5b0:decide (0≤x13_1)=true:=decide_eq_true c5
      clear c5
      by_cases c6:x13_1<(l0.length:Int)
      ·rw [if_pos c6] at H
       have c6b0:decide (x13_1<(l0.length:Int))=true:=decide_eq_true c6
       clear c6
       by_cases c7:x13_1<(l1.length:Int)
       ·rw [if_pos c7] at H
        have c7b0:decide (x13_1<(l1.length:Int))=true:=decide_eq_true c7
        clear c7
        by_cases c8:(rd l0 x13_1)=(rd l1 x13_1)
        ·rw [if_pos c8] at H
         have c8b0:((rd l0 x13_1) == (rd l1 x13_1))=true:=beq_iff_eq.mpr c8
         have c8b1:((rd l0 x13_1) != (rd l1 x13_1))=false:=bne_eq_false_iff_eq.mpr c8
         clear c8
         have H':=aK H
         clear H
         have p131:0≤(x13_1:Int):=of_decide_eq_true (by first|(with_reducible assumption)|assumption)
         have q131:x13_1<(l0.length:Int):=of_decide_eq_true (by first|(with_reducible assumption)|assumption)
         obtain ⟨ad131,e131,hx131_0⟩:=Kd.at_int HR0.out x13_1 p131 q131
         cases e131
         replace p131:=eq_true p131
         replace q131:=eq_true q131
         have p132:0≤(x13_1:Int):=of_decide_eq_true (by first|(with_reducible assumption)|assumption)
         have q132:x13_1<(l1.length:Int):=of_decide_eq_true (by first|(with_reducible assumption)|assumption)
         obtain ⟨ad132,e132,hx132_0⟩:=Kd.at_int HR1.out x13_1 p132 q132
         cases e132
         replace p132:=eq_true p132
         replace q132:=eq_true q132
         go_wp2
         repeat (go_quiet (fail);try go_wp2)
         go_roundg k1
         case measure=>have:=HK1.out;omega
         case rel=>exact ⟨(wrap64 (x13_1+1)),(by first|rfl|(simp;done)|(simp [*];done)),H',⟨by have:=HK1.out;omega⟩,by repeat (first|exact Drawn0.refl _|apply Drawn0.step)⟩
        ·rw [if_neg c8] at H
         have c8b0:((rd l0 x13_1) == (rd l1 x13_1))=false:=beq_eq_false_iff_ne.mpr c8
         have c8b1:((rd l0 x13_1) != (rd l1 x13_1))=true:=bne_iff_ne.mpr c8
         obtain rfl:=Option.some.inj H
         have p131:0≤(x13_1:Int):=of_decide_eq_true (by first|(with_reducible assumption)|assumption)
         have q131:x13_1<(l0.length:Int):=of_decide_eq_true (by first|(with_reducible assumption)|assumption)
         obtain ⟨ad131,e131,hx131_0⟩:=Kd.at_int HR0.out x13_1 p131 q131
         cases e131
         replace p131:=eq_true p131
         replace q131:=eq_true q131
         have p132:0≤(x13_1:Int):=of_decide_eq_true (by first|(with_reducible assumption)|assumption)
         have q132:x13_1<(l1.length:Int):=of_decide_eq_true (by first|(with_reducible assumption)|assumption)
         obtain ⟨ad132,e132,hx132_0⟩:=Kd.at_int HR1.out x13_1 p132 q132
         cases e132
         replace p132:=eq_true p132
         replace q132:=eq_true q132
         go_wp2
         repeat (go_quiet (fail);try go_wp2)
         go_ret
         exact ⟨by first|rfl|(simp;done)|(simp [*];done),by repeat (first|exact Drawn0.refl _|apply Drawn0.step)⟩
       ·rw [if_neg c7] at H
        exact absurd H (by simp)
      ·rw [if_neg c6] at H
       exact absurd H (by simp)
     ·rw [if_neg c5] at H
      exact absurd H (by simp)
    ·rw [if_neg c4] at H
     have c4b0:decide (x13_1<(l0.length:Int))=false:=decide_eq_false c4
     clear c4
     obtain rfl:=Option.some.inj H
     go_wp2
     repeat (go_quiet (fail);try go_wp2)
     go_ret
     exact ⟨by first|rfl|(simp;done)|(simp [*];done),by repeat (first|exact Drawn0.refl _|apply Drawn0.step)⟩
 ·rw [if_neg c3] at H
  have c3b0:((l0.length:Int) == (l1.length:Int))=false:=beq_eq_false_iff_ne.mpr c3
  have c3b1:((l0.length:Int) != (l1.length:Int))=true:=bne_iff_ne.mpr c3
  have c3b2:(l0.length == l1.length)=false:=by first|simpa using c3|(simp at c3 ⊢;omega)
  obtain rfl:=Option.some.inj H
  go_enter Tryz.func46,Tryz.ntmps46
  go_wp2
  repeat (go_quiet (fail);try go_wp2)
  go_ret
  exact ⟨by first|rfl|(simp;done)|(simp [*];done),by repeat (first|exact Drawn0.refl _|apply Drawn0.step)⟩
end Go.Proofs.YtoemkemmiikhlaaGreat.PF4
