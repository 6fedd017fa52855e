import Derived.Test.YtoemkemmiikhlaaGreatPF4x0
import Derived.Test.YtoemkemmiikhlaaGreatPF4x1
set_option maxRecDepth 100000
namespace Go.Proofs.YtoemkemmiikhlaaGreat.PF4
open Go.RowKit Go.Proofs.YtoemkemmiikhlaaGreatW.PrintWords Go.Proofs.YtoemkemmiikhlaaGreatW.PrintLast Go.Proofs.YtoemkemmiikhlaaGreatW.PrintMore
attribute [local go_sem] max2_int min2_int max_two min_two max_three min_three max_four min_four
set_option linter.unusedVariables false
set_option linter.unusedSimpArgs false
theorem grow_of_belowX {W w':World} (h:Below W.heap.size W w') (hd:W.drawn≤w'.drawn) : ∃ q os',w'=Go.Sort.grow (W.drewN q) os':=by
 refine ⟨w'.drawn-W.drawn,w'.heap.extract W.heap.size w'.heap.size,?_⟩
 have hh:w'.heap=W.heap++w'.heap.extract W.heap.size w'.heap.size:=by
  apply Array.ext_getElem?
  intro i
  rw [Array.getElem?_append]
  by_cases hi:i<W.heap.size
  ·rw [if_pos hi];exact h.block i hi
  ·rw [if_neg hi,Array.getElem?_extract]
   have hs:=h.size
   by_cases hj:i<w'.heap.size
   ·rw [if_pos (by omega)];congr 1;omega
   ·rw [if_neg (by omega),Array.getElem?_eq_none (by omega)]
 have e1:=h.os;have e2:=h.tape;have e3:=h.output
 cases w';cases W
 simp only [Go.Sort.grow,World.drewN] at *
 subst e1;subst e2;subst e3
 congr 1
 omega
def cmpI (x y:Int):Int:=if x<y then -1 else if y<x then 1 else 0
theorem cmpI_is (x y:Int):cmp_Compare_int.f x y=some (cmpI x y):=by
 unfold cmp_Compare_int.f cmp_isNaN_int.f cmpI
 simp only [Option.bind_some,bne_self_eq_false,Bool.false_eq_true,if_false]
 by_cases h:x<y
 ·rw [if_pos h,if_pos h]
 ·rw [if_neg h,if_neg h]
  by_cases h':x>y
  ·rw [if_pos h',if_pos (show y<x from h')]
  ·rw [if_neg h',if_neg (show ¬ y<x from h')]
def cmpC (x y:S50):Int:=cmpI x.f0 y.f0
set_option maxHeartbeats 4000000 in
theorem cmpC_grows (x y:S50) (W:World):Calls Tryz.prog 36 #[.agg #[.int .i64 x.f0,.int .i64 x.f1,.int .i64 x.f2,.int .i64 x.f3],.agg #[.int .i64 y.f0,.int .i64 y.f1,.int .i64 y.f2,.int .i64 y.f3]] W fun e w'=>e = .returned (.int .i64 (cmpC x y))∧Below W.heap.size W w'∧W.drawn≤w'.drawn:=by
 have hu:=Tryz.underlying50
 have HC1:=aK (fun V=>cmp_Compare_int.calls x.f0 y.f0 (cmpC x y) V (cmpI_is _ _))
 generalize cmpC x y=r at *
 have X0:=blk_alloc (blk_new W (.cells #[.int .i64 x.f0,.int .i64 x.f1,.int .i64 x.f2,.int .i64 x.f3] 50)) (.cells #[.int .i64 y.f0,.int .i64 y.f1,.int .i64 y.f2,.int .i64 y.f3] 50)
 have Y0:=blk_new (W.alloc (.cells #[.int .i64 x.f0,.int .i64 x.f1,.int .i64 x.f2,.int .i64 x.f3] 50)) (.cells #[.int .i64 y.f0,.int .i64 y.f1,.int .i64 y.f2,.int .i64 y.f3] 50)
 simp only [World.size_alloc] at Y0
 have p1:=(blk_cell X0 0).trans rfl
 have p3:=(blk_cell Y0 0).trans rfl
 clear X0 Y0
 go_enter Tryz.func36,Tryz.ntmps36
 go_wp2_with fail
 refine (HC1.out _).mono ?_
 rintro e W1 ⟨rfl,⟨n1,rfl⟩⟩
 go_wp2
 go_ret
 exact ⟨rfl,pw_below_drewN (below_alloc (below_alloc (Below.refl W.heap.size W) _) _) _,by show W.drawn≤W.drawn+n1;omega⟩
theorem cmpC_calls (W:World) (x y:S50):Calls Tryz.prog 36 #[.agg #[.int .i64 x.f0,.int .i64 x.f1,.int .i64 x.f2,.int .i64 x.f3],.agg #[.int .i64 y.f0,.int .i64 y.f1,.int .i64 y.f2,.int .i64 y.f3]] W fun e w'=>e = .returned (.int .i64 (cmpC x y))∧Below W.heap.size W w':=(cmpC_grows x y W).mono fun _ _ h=>⟨h.1,h.2.1⟩
def idxFromR (p : S45 → Bool) : List S45 → Int → Int
 | [],_=>-1
 | x::xs,i=>if p x then i else idxFromR p xs (i+1)
theorem idxFromR_nonneg (p : S45 → Bool) : ∀ (xs : List S45) (i : Int), 0 ≤ i → (decide (0 ≤ idxFromR p xs i) = xs.any p)
 | [],i,_=>by simp [idxFromR]
 | x::xs,i,h=>by
  unfold idxFromR
  by_cases hx:p x=true
  ·simp [hx,h]
  ·simp [hx,idxFromR_nonneg p xs (i+1) (by omega)]
theorem rd_dropR (xs:List S45) (i:Nat) (h:i<xs.length):xs.drop i=rd_T45 xs (i:Int)::xs.drop (i+1):=by
 rw [List.drop_eq_getElem_cons h]
 congr 1
 simp [rd_T45,List.getD_eq_getElem?_getD,List.getElem?_eq_getElem h]
set_option maxHeartbeats 2000000 in
theorem IndexFunc_prsR (g : Nat) (lb : Array Value) (p : S45 → Bool) (eg : ∀ args w, (callFunc g args).run Tryz.prog w = .ok (.enter g args) w) (A0 : Option Addr) (c0 : Nat) (l0 : List S45) (w : World)
  (hp : ∀ (W:World) (x:S45),Below w.heap.size w W→Calls Tryz.prog g (#[.agg #[.int .i64 x.f0,.int .i64 x.f1,.int .i64 x.f2,.int .i64 x.f3]]++lb) W fun e w'=>e = .returned (.bool (p x))∧Below w.heap.size w w')
  (hr0:Kd.C k45 w A0 l0.length l0) (hlen:l0.length≤9223372036854775807) :
  Calls Tryz.prog 107 #[.slice A0 l0.length c0,.func (.func g) #[] lb] w fun e w'=>e = .returned (.int .i64 (idxFromR p l0 0))∧Below w.heap.size w w':=by
 have hu:=Tryz.underlying45
 have HR0:=aK hr0
 have HP:=aK hp
 clear hr0 hp
 have HB:=aK (Below.refl w.heap.size w)
 go_enter Tryz.func107,Tryz.ntmps107
 go_wp2
 go_loopg [8] l0.length (fun gg s8 wr=>∃ kk:Nat,kk≤l0.length∧l0.length-kk≤gg∧s8 = .int .i64 kk∧Aside0 (idxFromR p l0 0=idxFromR p (l0.drop kk) kk)∧Aside0 (Below w.heap.size w wr))
 case atStart=>exact ⟨0,Nat.zero_le _,by omega,rfl,⟨rfl⟩,HB⟩
 case round =>
  obtain ⟨kk,hkk,hg,rfl,HI,HB⟩:=hrel
  by_cases hlt:kk<l0.length
  ·have hlti:(kk:Int)<(l0.length:Int):=by omega
   obtain ⟨ad,rfl,hx0,hx1,hx2,hx3⟩:=at_T45 HR0.out (kk:Int) (by omega) hlti
   have hcall:=HP.out wr (rd_T45 l0 (kk:Int)) HB.out
   have hd:=rd_dropR l0 kk hlt
   have HI2:Aside0 (idxFromR p l0 0=if p (rd_T45 l0 (kk:Int)) then (kk:Int) else idxFromR p (l0.drop (kk+1)) ((kk:Int)+1)):=⟨by rw [HI.out,hd];rfl⟩
   clear HI hd
   replace hx0:=(HB.out.cell (World.block_lt_of_cell? w _ hx0)).trans hx0
   replace hx1:=(HB.out.cell (World.block_lt_of_cell? w _ hx1)).trans hx1
   replace hx2:=(HB.out.cell (World.block_lt_of_cell? w _ hx2)).trans hx2
   replace hx3:=(HB.out.cell (World.block_lt_of_cell? w _ hx3)).trans hx3
   simp only [Int.toNat_natCast] at hx0 hx1 hx2 hx3
   generalize rd_T45 l0 (kk:Int)=x at *
   cases hq:p x with
   | true =>
    rw [hq] at hcall
    have hi:idxFromR p l0 0=(kk:Int):=by have:=HI2.out;rw [hq] at this;exact this
    have HI3:=aK hi
    clear hi HI2 hq
    go_wp2_with fail
    refine hcall.mono ?_
    clear hcall
    rintro e w' ⟨rfl,hb'⟩
    go_wp2
    go_ret
    exact ⟨by rw [HI3.out];rfl,hb'⟩
   | false =>
    rw [hq] at hcall
    have hi:idxFromR p l0 0=idxFromR p (l0.drop (kk+1)) ((kk:Int)+1):=by have:=HI2.out;rw [hq] at this;exact this
    have HI3:=aK hi
    clear hi HI2 hq
    go_wp2_with fail
    refine hcall.mono ?_
    clear hcall
    rintro e w' ⟨rfl,hb'⟩
    go_wp2
    go_roundg (l0.length-(kk+1))
    case measure=>omega
    case rel=>exact ⟨kk+1,by omega,by omega,by go_num,⟨HI3.out⟩,⟨hb'⟩⟩
  ·have hlti : ¬ (kk:Int)<(l0.length:Int):=by omega
   have hi:idxFromR p l0 0 = -1:=by rw [HI.out,List.drop_eq_nil_of_le (by omega)];rfl
   have HI3:=aK hi
   clear hi HI
   go_wp2
   go_ret
   exact ⟨by rw [HI3.out];rfl,HB.out⟩
set_option maxHeartbeats 2000000 in
theorem ContainsFunc_prsR (g : Nat) (lb : Array Value) (p : S45 → Bool) (eg : ∀ args w, (callFunc g args).run Tryz.prog w = .ok (.enter g args) w) (A0 : Option Addr) (c0 : Nat) (l0 : List S45) (w : World)
  (hp : ∀ (W:World) (x:S45),Below w.heap.size w W→Calls Tryz.prog g (#[.agg #[.int .i64 x.f0,.int .i64 x.f1,.int .i64 x.f2,.int .i64 x.f3]]++lb) W fun e w'=>e = .returned (.bool (p x))∧Below w.heap.size w w')
  (hr0:Kd.C k45 w A0 l0.length l0) (hlen:l0.length≤9223372036854775807) :
  Calls Tryz.prog 92 #[.slice A0 l0.length c0,.func (.func g) #[] lb] w fun e w'=>e = .returned (.bool (l0.any p))∧Below w.heap.size w w':=by
 have hc:=IndexFunc_prsR g lb p eg A0 c0 l0 w hp hr0 hlen
 have HA:=aK (idxFromR_nonneg p l0 0 (by omega))
 clear hp hr0
 generalize idxFromR p l0 0=n at *
 go_enter Tryz.func92,Tryz.ntmps92
 go_wp2_with fail
 refine hc.mono ?_
 clear hc
 rintro e w' ⟨rfl,hb'⟩
 go_wp2
 go_ret
 exact ⟨by rw [← HA.out];rfl,hb'⟩
set_option maxHeartbeats 2000000 in
theorem all1_callsR (g : Nat) (p : S45 → Bool) (eg : ∀ args w, (callFunc g args).run Tryz.prog w = .ok (.enter g args) w) (b : Nat) (x : S45) (W : World)
  (hp : ∀ (W:World) (x:S45),Calls Tryz.prog g #[.agg #[.int .i64 x.f0,.int .i64 x.f1,.int .i64 x.f2,.int .i64 x.f3]] W fun e w'=>e = .returned (.bool (p x))∧Below W.heap.size W w')
  (h:W.heap[b]?=some (.cells #[.func (.func g) #[] #[]] 82 (0,0))) :
  Calls Tryz.prog 93 #[.agg #[.int .i64 x.f0,.int .i64 x.f1,.int .i64 x.f2,.int .i64 x.f3],.pointer (some ⟨b,0,none⟩)] W fun e w'=>e = .returned (.bool (!p x))∧Below W.heap.size W w':=by
 have hu:=Tryz.underlying45
 have K1:=blk_alloc h (.cells #[.int .i64 x.f0,.int .i64 x.f1,.int .i64 x.f2,.int .i64 x.f3] 45)
 have K2:=blk_new W (.cells #[.int .i64 x.f0,.int .i64 x.f1,.int .i64 x.f2,.int .i64 x.f3] 45)
 have p0:=(blk_cell K1 0).trans rfl
 have p1:=(blk_cell K2 0).trans rfl
 have p2:=(blk_cell K2 1).trans rfl
 have p3:=(blk_cell K2 2).trans rfl
 have p4:=(blk_cell K2 3).trans rfl
 have HB:=aK (below_alloc (Below.refl W.heap.size W) (.cells #[.int .i64 x.f0,.int .i64 x.f1,.int .i64 x.f2,.int .i64 x.f3] 45))
 have hcall:=hp (W.alloc (.cells #[.int .i64 x.f0,.int .i64 x.f1,.int .i64 x.f2,.int .i64 x.f3] 45)) x
 clear h K1 K2 hp
 generalize p x=r at *
 go_enter Tryz.func93,Tryz.ntmps93
 go_wp2_with fail
 refine hcall.mono ?_
 clear hcall
 rintro e w' ⟨rfl,hb⟩
 go_wp2
 go_ret
 exact ⟨rfl,below_step HB.out hb⟩
set_option maxHeartbeats 2000000 in
theorem all_prsR (g : Nat) (p : S45 → Bool) (eg : ∀ args w, (callFunc g args).run Tryz.prog w = .ok (.enter g args) w) (A0 : Option Addr) (c0 : Nat) (l0 : List S45) (w : World)
  (hp : ∀ (W:World) (x:S45),Calls Tryz.prog g #[.agg #[.int .i64 x.f0,.int .i64 x.f1,.int .i64 x.f2,.int .i64 x.f3]] W fun e w'=>e = .returned (.bool (p x))∧Below W.heap.size W w')
  (hr0:Kd.C k45 w A0 l0.length l0) (hlen:l0.length≤9223372036854775807) :
  Calls Tryz.prog 51 #[.slice A0 l0.length c0,.func (.func g) #[] #[]] w fun e w'=>e = .returned (.bool (l0.all p))∧Below w.heap.size w w':=by
 have K:=aK (blk_new w (.cells #[.func (.func g) #[] #[]] 82))
 have HB:=aK (below_alloc (Below.refl w.heap.size w) (.cells #[.func (.func g) #[] #[]] 82))
 have HC:=aK (ContainsFunc_prsR 93 #[.pointer (some ⟨w.heap.size,0,none⟩)] (fun x=>!p x) (enters_own Tryz.func93 (by kernel_rfl) rfl) A0 c0 l0 (w.alloc (.cells #[.func (.func g) #[] #[]] 82)) (fun W x hbW=>(all1_callsR g p eg w.heap.size x W hp (blk_below K.out hbW)).mono (fun e w' he=>⟨he.1,below_step hbW he.2⟩)) (Kd.C_below hr0 HB.out) hlen)
 have HQ:Aside0 ((!(l0.any fun x=>!p x))=l0.all p):=⟨by rw [List.all_eq_not_any_not]⟩
 generalize l0.all p=r at *
 generalize (l0.any fun x=>!p x)=q at *
 clear hr0 hp K
 go_enter Tryz.func51,Tryz.ntmps51
 go_wp2_with fail
 refine HC.out.mono ?_
 rintro e w' ⟨rfl,hb⟩
 go_wp2
 go_ret
 exact ⟨by rw [← HQ.out];rfl,below_step HB.out hb⟩
def metric_isRule.f (a0_0:Int) (a0_1:Int) (a0_2:Int) (a0_3:Int):Option (Bool):=(metric_isCode.f a0_3).bind fun t111=>(if a0_2=0 then ((metric_isCoord.f a0_3).bind fun t112=>((metric_isCode.f a0_0).bind fun t113=>(if t113=true then ((metric_isCode.f a0_1).bind fun t114=>(if t114=true then (if a0_2≥0 then (if a0_2≤4 then (some t112) else (some false)) else (some false)) else (some false))) else (some false)))) else ((metric_isCode.f a0_0).bind fun t115=>(if t115=true then ((metric_isCode.f a0_1).bind fun t116=>(if t116=true then (if a0_2≥0 then (if a0_2≤4 then (some t111) else (some false)) else (some false)) else (some false))) else (some false))))
set_option maxHeartbeats 8000000 in
theorem metric_isRule.calls (a0_0 : Int) (a0_1 : Int) (a0_2 : Int) (a0_3 : Int) (r : Bool) (w : World) (h : metric_isRule.f a0_0 a0_1 a0_2 a0_3 = some r) :
  Calls Tryz.prog 52 #[.agg #[.int .i64 a0_0,.int .i64 a0_1,.int .i64 a0_2,.int .i64 a0_3]] w fun e w'=>e = .returned (.bool r)∧Below w.heap.size w w':=by
 have hu45:=Tryz.underlying45
 have HB:=aK (Below.refl w.heap.size w)
 have H:((metric_isCode.f a0_3).bind fun t111=>(if a0_2=0 then ((metric_isCoord.f a0_3).bind fun t112=>((metric_isCode.f a0_0).bind fun t113=>(if t113=true then ((metric_isCode.f a0_1).bind fun t114=>(if t114=true then (if a0_2≥0 then (if a0_2≤4 then (some t112) else (some false)) else (some false)) else (some false))) else (some false)))) else ((metric_isCode.f a0_0).bind fun t115=>(if t115=true then ((metric_isCode.f a0_1).bind fun t116=>(if t116=true then (if a0_2≥0 then (if a0_2≤4 then (some t111) else (some false)) else (some false)) else (some false))) else (some false)))))=some r:=h
 clear h
 replace H:=Option.bind_eq_some_iff.mp H
 obtain ⟨t111,A20,H⟩:=H
 replace H:(if a0_2=0 then ((metric_isCoord.f a0_3).bind fun t112=>((metric_isCode.f a0_0).bind fun t113=>(if t113=true then ((metric_isCode.f a0_1).bind fun t114=>(if t114=true then (if a0_2≥0 then (if a0_2≤4 then (some t112) else (some false)) else (some false)) else (some false))) else (some false)))) else ((metric_isCode.f a0_0).bind fun t115=>(if t115=true then ((metric_isCode.f a0_1).bind fun t116=>(if t116=true then (if a0_2≥0 then (if a0_2≤4 then (some t111) else (some false)) else (some false)) else (some false))) else (some false))))=some r:=H
 have A2:=aK A20
 clear A20
 by_cases c3:a0_2=0
 ·rw [if_pos c3] at H
  have c3b0:(a0_2 == 0)=true:=beq_iff_eq.mpr c3
  have c3b1:(a0_2 != 0)=false:=bne_eq_false_iff_eq.mpr c3
  clear c3
  replace H:=Option.bind_eq_some_iff.mp H
  obtain ⟨t112,A40,H⟩:=H
  replace H:((metric_isCode.f a0_0).bind fun t113=>(if t113=true then ((metric_isCode.f a0_1).bind fun t114=>(if t114=true then (if a0_2≥0 then (if a0_2≤4 then (some t112) else (some false)) else (some false)) else (some false))) else (some false)))=some r:=H
  have A4:=aK A40
  clear A40
  replace H:=Option.bind_eq_some_iff.mp H
  obtain ⟨t113,A50,H⟩:=H
  replace H:(if t113=true then ((metric_isCode.f a0_1).bind fun t114=>(if t114=true then (if a0_2≥0 then (if a0_2≤4 then (some t112) else (some false)) else (some false)) else (some false))) else (some false))=some r:=H
  have A5:=aK A50
  clear A50
  by_cases c6:t113=true
  ·subst c6
   have H1:((metric_isCode.f a0_1).bind fun t114=>(if t114=true then (if a0_2≥0 then (if a0_2≤4 then (some t112) else (some false)) else (some false)) else (some false)))=some r:=by rw [if_pos rfl] at H;exact H
   clear H
   have H:=H1
   clear H1
   replace H:=Option.bind_eq_some_iff.mp H
   obtain ⟨t114,A70,H⟩:=H
   replace H:(if t114=true then (if a0_2≥0 then (if a0_2≤4 then (some t112) else (some false)) else (some false)) else (some false))=some r:=H
   have A7:=aK A70
   clear A70
   by_cases c8:t114=true
   ·subst c8
    have H1:(if a0_2≥0 then (if a0_2≤4 then (some t112) else (some false)) else (some false))=some r:=by rw [if_pos rfl] at H;exact H
    clear H
    have H:=H1
    clear H1
    by_cases c9:a0_2≥0
    ·rw [if_pos c9] at H
     have c9b0:decide (0≤a0_2)=true:=decide_eq_true c9
     clear c9
     by_cases c10:a0_2≤4
     ·rw [if_pos c10] at H
      have c10b0:decide (a0_2≤4)=true:=decide_eq_true c10
      clear c10
      obtain rfl:=Option.some.inj H
      go_enter Tryz.func52,Tryz.ntmps52
      go_wp2_with (first|((with_reducible refine gate_dst (N:=1) rfl ?_);refine box_event ?hg (N:=1) ?hd (cs:=#[.int .i64 a0_0,.int .i64 a0_1,.int .i64 a0_2,.int .i64 a0_3]) (t:=45) ?hr ?_;(case hd=>rfl);(case hg=>rfl);(case hr=>first|(go_simp;done)|(go_simp;rfl));intro gb110 hg w11 hbox hb;have n0_:=aK (below_step (by repeat (first|(with_reducible first|exact HB.out|apply below_alloc|apply pw_below_drewN|apply below_drew1)|exact HB.out)) hb);have n1_:=aK (hbox);have n2_:=aK ((by rw [hg];exact (below_size (by repeat (first|(with_reducible first|exact HB.out|apply below_alloc|apply pw_below_drewN|apply below_drew1)|exact HB.out))):w.heap.size≤gb110));have n3_:=n2_;clear HB;have HB:=n0_;have BK110:=n1_;have GW110:=n2_;have GE110:=n3_;clear n0_ n1_ n2_ n3_;clear hb hbox hg;have hcz12_0:w11.cell? ⟨gb110,0,none⟩=some (.int .i64 a0_0):=(blk_cell BK110.out 0).trans rfl;have hcz12_1:w11.cell? ⟨gb110,1,none⟩=some (.int .i64 a0_1):=(blk_cell BK110.out 1).trans rfl;have hcz12_2:w11.cell? ⟨gb110,2,none⟩=some (.int .i64 a0_2):=(blk_cell BK110.out 2).trans rfl;have hcz12_3:w11.cell? ⟨gb110,3,none⟩=some (.int .i64 a0_3):=(blk_cell BK110.out 3).trans rfl;have hfz12_0:=blk_frozen BK110.out 0;have hfz12_1:=blk_frozen BK110.out 1;have hfz12_2:=blk_frozen BK110.out 2;have hfz12_3:=blk_frozen BK110.out 3)|((with_reducible refine gate_callee (f:=84) rfl ?_);refine goesL_ (some 6) rfl rfl Tryz.func84 (by kernel_rfl) rfl #[.int .i64 a0_3] rfl (by (try simp only [List.map_toArray,List.map_cons,List.map_nil]);first|done|rfl|(simp only [List.length_drop,List.length_take];rfl)) ?_;(with_reducible refine (metric_isCode.calls a0_3 t111 _ A2.out).mono ?_);rintro e w' ⟨rfl,⟨nd,rfl⟩⟩;refine ⟨_,rfl,?_⟩)|((with_reducible refine gate_callee (f:=85) rfl ?_);refine goesL_ (some 12) rfl rfl Tryz.func85 (by kernel_rfl) rfl #[.int .i64 a0_3] rfl (by (try simp only [List.map_toArray,List.map_cons,List.map_nil]);first|done|rfl|(simp only [List.length_drop,List.length_take];rfl)) ?_;(with_reducible refine (metric_isCoord.calls a0_3 t112 _ A4.out).mono ?_);rintro e w' ⟨rfl,⟨nd,rfl⟩⟩;refine ⟨_,rfl,?_⟩)|((with_reducible refine gate_callee (f:=84) rfl ?_);refine goesL_ (some 15) rfl rfl Tryz.func84 (by kernel_rfl) rfl #[.int .i64 a0_0] rfl (by (try simp only [List.map_toArray,List.map_cons,List.map_nil]);first|done|rfl|(simp only [List.length_drop,List.length_take];rfl)) ?_;(with_reducible refine (metric_isCode.calls a0_0 true _ A5.out).mono ?_);rintro e w' ⟨rfl,⟨nd,rfl⟩⟩;refine ⟨_,rfl,?_⟩)|(go_at_call 84;(with_reducible refine (metric_isCode.calls a0_1 true _ A7.out).mono ?_);rintro e w' ⟨rfl,⟨nd,rfl⟩⟩))
      go_ret
      exact ⟨by first|rfl|(simp [errW_none,errW_some] <;> rfl)|(simp [*,errW_none,errW_some] <;> rfl),by repeat (first|(with_reducible first|exact HB.out|apply below_alloc|apply pw_below_drewN|apply below_drew1|refine below_set ?_ GE110.out)|exact HB.out)⟩
     ·rw [if_neg c10] at H
      have c10b0:decide (a0_2≤4)=false:=decide_eq_false c10
      clear c10
      obtain rfl:=Option.some.inj H
      go_enter Tryz.func52,Tryz.ntmps52
      go_wp2_with (first|((with_reducible refine gate_dst (N:=1) rfl ?_);refine box_event ?hg (N:=1) ?hd (cs:=#[.int .i64 a0_0,.int .i64 a0_1,.int .i64 a0_2,.int .i64 a0_3]) (t:=45) ?hr ?_;(case hd=>rfl);(case hg=>rfl);(case hr=>first|(go_simp;done)|(go_simp;rfl));intro gb110 hg w13 hbox hb;have n0_:=aK (below_step (by repeat (first|(with_reducible first|exact HB.out|apply below_alloc|apply pw_below_drewN|apply below_drew1)|exact HB.out)) hb);have n1_:=aK (hbox);have n2_:=aK ((by rw [hg];exact (below_size (by repeat (first|(with_reducible first|exact HB.out|apply below_alloc|apply pw_below_drewN|apply below_drew1)|exact HB.out))):w.heap.size≤gb110));have n3_:=n2_;clear HB;have HB:=n0_;have BK110:=n1_;have GW110:=n2_;have GE110:=n3_;clear n0_ n1_ n2_ n3_;clear hb hbox hg;have hcz14_0:w13.cell? ⟨gb110,0,none⟩=some (.int .i64 a0_0):=(blk_cell BK110.out 0).trans rfl;have hcz14_1:w13.cell? ⟨gb110,1,none⟩=some (.int .i64 a0_1):=(blk_cell BK110.out 1).trans rfl;have hcz14_2:w13.cell? ⟨gb110,2,none⟩=some (.int .i64 a0_2):=(blk_cell BK110.out 2).trans rfl;have hcz14_3:w13.cell? ⟨gb110,3,none⟩=some (.int .i64 a0_3):=(blk_cell BK110.out 3).trans rfl;have hfz14_0:=blk_frozen BK110.out 0;have hfz14_1:=blk_frozen BK110.out 1;have hfz14_2:=blk_frozen BK110.out 2;have hfz14_3:=blk_frozen BK110.out 3)|((with_reducible refine gate_callee (f:=84) rfl ?_);refine goesL_ (some 6) rfl rfl Tryz.func84 (by kernel_rfl) rfl #[.int .i64 a0_3] rfl (by (try simp only [List.map_toArray,List.map_cons,List.map_nil]);first|done|rfl|(simp only [List.length_drop,List.length_take];rfl)) ?_;(with_reducible refine (metric_isCode.calls a0_3 t111 _ A2.out).mono ?_);rintro e w' ⟨rfl,⟨nd,rfl⟩⟩;refine ⟨_,rfl,?_⟩)|((with_reducible refine gate_callee (f:=85) rfl ?_);refine goesL_ (some 12) rfl rfl Tryz.func85 (by kernel_rfl) rfl #[.int .i64 a0_3] rfl (by (try simp only [List.map_toArray,List.map_cons,List.map_nil]);first|done|rfl|(simp only [List.length_drop,List.length_take];rfl)) ?_;(with_reducible refine (metric_isCoord.calls a0_3 t112 _ A4.out).mono ?_);rintro e w' ⟨rfl,⟨nd,rfl⟩⟩;refine ⟨_,rfl,?_⟩)|((with_reducible refine gate_callee (f:=84) rfl ?_);refine goesL_ (some 15) rfl rfl Tryz.func84 (by kernel_rfl) rfl #[.int .i64 a0_0] rfl (by (try simp only [List.map_toArray,List.map_cons,List.map_nil]);first|done|rfl|(simp only [List.length_drop,List.length_take];rfl)) ?_;(with_reducible refine (metric_isCode.calls a0_0 true _ A5.out).mono ?_);rintro e w' ⟨rfl,⟨nd,rfl⟩⟩;refine ⟨_,rfl,?_⟩)|(go_at_call 84;(with_reducible refine (metric_isCode.calls a0_1 true _ A7.out).mono ?_);rintro e w' ⟨rfl,⟨nd,rfl⟩⟩))
      go_ret
      exact ⟨by first|rfl|(simp [errW_none,errW_some] <;> rfl)|(simp [*,errW_none,errW_some] <;> rfl),by repeat (first|(with_reducible first|exact HB.out|apply below_alloc|apply pw_below_drewN|apply below_drew1|refine below_set ?_ GE110.out)|exact HB.out)⟩
    ·rw [if_neg c9] at H
     have c9b0:decide (0≤a0_2)=false:=decide_eq_false c9
     clear c9
     obtain rfl:=Option.some.inj H
     go_enter Tryz.func52,Tryz.ntmps52
     go_wp2_with (first|((with_reducible refine gate_dst (N:=1) rfl ?_);refine box_event ?hg (N:=1) ?hd (cs:=#[.int .i64 a0_0,.int .i64 a0_1,.int .i64 a0_2,.int .i64 a0_3]) (t:=45) ?hr ?_;(case hd=>rfl);(case hg=>rfl);(case hr=>first|(go_simp;done)|(go_simp;rfl));intro gb110 hg w15 hbox hb;have n0_:=aK (below_step (by repeat (first|(with_reducible first|exact HB.out|apply below_alloc|apply pw_below_drewN|apply below_drew1)|exact HB.out)) hb);have n1_:=aK (hbox);have n2_:=aK ((by rw [hg];exact (below_size (by repeat (first|(with_reducible first|exact HB.out|apply below_alloc|apply pw_below_drewN|apply below_drew1)|exact HB.out))):w.heap.size≤gb110));have n3_:=n2_;clear HB;have HB:=n0_;have BK110:=n1_;have GW110:=n2_;have GE110:=n3_;clear n0_ n1_ n2_ n3_;clear hb hbox hg;have hcz16_0:w15.cell? ⟨gb110,0,none⟩=some (.int .i64 a0_0):=(blk_cell BK110.out 0).trans rfl;have hcz16_1:w15.cell? ⟨gb110,1,none⟩=some (.int .i64 a0_1):=(blk_cell BK110.out 1).trans rfl;have hcz16_2:w15.cell? ⟨gb110,2,none⟩=some (.int .i64 a0_2):=(blk_cell BK110.out 2).trans rfl;have hcz16_3:w15.cell? ⟨gb110,3,none⟩=some (.int .i64 a0_3):=(blk_cell BK110.out 3).trans rfl;have hfz16_0:=blk_frozen BK110.out 0;have hfz16_1:=blk_frozen BK110.out 1;have hfz16_2:=blk_frozen BK110.out 2;have hfz16_3:=blk_frozen BK110.out 3)|((with_reducible refine gate_callee (f:=84) rfl ?_);refine goesL_ (some 6) rfl rfl Tryz.func84 (by kernel_rfl) rfl #[.int .i64 a0_3] rfl (by (try simp only [List.map_toArray,List.map_cons,List.map_nil]);first|done|rfl|(simp only [List.length_drop,List.length_take];rfl)) ?_;(with_reducible refine (metric_isCode.calls a0_3 t111 _ A2.out).mono ?_);rintro e w' ⟨rfl,⟨nd,rfl⟩⟩;refine ⟨_,rfl,?_⟩)|((with_reducible refine gate_callee (f:=85) rfl ?_);refine goesL_ (some 12) rfl rfl Tryz.func85 (by kernel_rfl) rfl #[.int .i64 a0_3] rfl (by (try simp only [List.map_toArray,List.map_cons,List.map_nil]);first|done|rfl|(simp only [List.length_drop,List.length_take];rfl)) ?_;(with_reducible refine (metric_isCoord.calls a0_3 t112 _ A4.out).mono ?_);rintro e w' ⟨rfl,⟨nd,rfl⟩⟩;refine ⟨_,rfl,?_⟩)|((with_reducible refine gate_callee (f:=84) rfl ?_);refine goesL_ (some 15) rfl rfl Tryz.func84 (by kernel_rfl) rfl #[.int .i64 a0_0] rfl (by (try simp only [List.map_toArray,List.map_cons,List.map_nil]);first|done|rfl|(simp only [List.length_drop,List.length_take];rfl)) ?_;(with_reducible refine (metric_isCode.calls a0_0 true _ A5.out).mono ?_);rintro e w' ⟨rfl,⟨nd,rfl⟩⟩;refine ⟨_,rfl,?_⟩)|(go_at_call 84;(with_reducible refine (metric_isCode.calls a0_1 true _ A7.out).mono ?_);rintro e w' ⟨rfl,⟨nd,rfl⟩⟩))
     go_ret
     exact ⟨by first|rfl|(simp [errW_none,errW_some] <;> rfl)|(simp [*,errW_none,errW_some] <;> rfl),by repeat (first|(with_reducible first|exact HB.out|apply below_alloc|apply pw_below_drewN|apply below_drew1|refine below_set ?_ GE110.out)|exact HB.out)⟩
   ·replace c8:=Bool.eq_false_iff.mpr c8
    subst c8
    have H1:(some false)=some r:=by rw [if_neg (show ¬ (false=true) by decide)] at H;exact H
    clear H
    have H:=H1
    clear H1
    obtain rfl:=Option.some.inj H
    go_enter Tryz.func52,Tryz.ntmps52
    go_wp2_with (first|((with_reducible refine gate_dst (N:=1) rfl ?_);refine box_event ?hg (N:=1) ?hd (cs:=#[.int .i64 a0_0,.int .i64 a0_1,.int .i64 a0_2,.int .i64 a0_3]) (t:=45) ?hr ?_;(case hd=>rfl);(case hg=>rfl);(case hr=>first|(go_simp;done)|(go_simp;rfl));intro gb110 hg w17 hbox hb;have n0_:=aK (below_step (by repeat (first|(with_reducible first|exact HB.out|apply below_alloc|apply pw_below_drewN|apply below_drew1)|exact HB.out)) hb);have n1_:=aK (hbox);have n2_:=aK ((by rw [hg];exact (below_size (by repeat (first|(with_reducible first|exact HB.out|apply below_alloc|apply pw_below_drewN|apply below_drew1)|exact HB.out))):w.heap.size≤gb110));have n3_:=n2_;clear HB;have HB:=n0_;have BK110:=n1_;have GW110:=n2_;have GE110:=n3_;clear n0_ n1_ n2_ n3_;clear hb hbox hg;have hcz18_0:w17.cell? ⟨gb110,0,none⟩=some (.int .i64 a0_0):=(blk_cell BK110.out 0).trans rfl;have hcz18_1:w17.cell? ⟨gb110,1,none⟩=some (.int .i64 a0_1):=(blk_cell BK110.out 1).trans rfl;have hcz18_2:w17.cell? ⟨gb110,2,none⟩=some (.int .i64 a0_2):=(blk_cell BK110.out 2).trans rfl;have hcz18_3:w17.cell? ⟨gb110,3,none⟩=some (.int .i64 a0_3):=(blk_cell BK110.out 3).trans rfl;have hfz18_0:=blk_frozen BK110.out 0;have hfz18_1:=blk_frozen BK110.out 1;have hfz18_2:=blk_frozen BK110.out 2;have hfz18_3:=blk_frozen BK110.out 3)|((with_reducible refine gate_callee (f:=84) rfl ?_);refine goesL_ (some 6) rfl rfl Tryz.func84 (by kernel_rfl) rfl #[.int .i64 a0_3] rfl (by (try simp only [List.map_toArray,List.map_cons,List.map_nil]);first|done|rfl|(simp only [List.length_drop,List.length_take];rfl)) ?_;(with_reducible refine (metric_isCode.calls a0_3 t111 _ A2.out).mono ?_);rintro e w' ⟨rfl,⟨nd,rfl⟩⟩;refine ⟨_,rfl,?_⟩)|((with_reducible refine gate_callee (f:=85) rfl ?_);refine goesL_ (some 12) rfl rfl Tryz.func85 (by kernel_rfl) rfl #[.int .i64 a0_3] rfl (by (try simp only [List.map_toArray,List.map_cons,List.map_nil]);first|done|rfl|(simp only [List.length_drop,List.length_take];rfl)) ?_;(with_reducible refine (metric_isCoord.calls a0_3 t112 _ A4.out).mono ?_);rintro e w' ⟨rfl,⟨nd,rfl⟩⟩;refine ⟨_,rfl,?_⟩)|((with_reducible refine gate_callee (f:=84) rfl ?_);refine goesL_ (some 15) rfl rfl Tryz.func84 (by kernel_rfl) rfl #[.int .i64 a0_0] rfl (by (try simp only [List.map_toArray,List.map_cons,List.map_nil]);first|done|rfl|(simp only [List.length_drop,List.length_take];rfl)) ?_;(with_reducible refine (metric_isCode.calls a0_0 true _ A5.out).mono ?_);rintro e w' ⟨rfl,⟨nd,rfl⟩⟩;refine ⟨_,rfl,?_⟩)|(go_at_call 84;(with_reducible refine (metric_isCode.calls a0_1 false _ A7.out).mono ?_);rintro e w' ⟨rfl,⟨nd,rfl⟩⟩))
    go_ret
    exact ⟨by first|rfl|(simp [errW_none,errW_some] <;> rfl)|(simp [*,errW_none,errW_some] <;> rfl),by repeat (first|(with_reducible first|exact HB.out|apply below_alloc|apply pw_below_drewN|apply below_drew1|refine below_set ?_ GE110.out)|exact HB.out)⟩
  ·replace c6:=Bool.eq_false_iff.mpr c6
   subst c6
   have H1:(some false)=some r:=by rw [if_neg (show ¬ (false=true) by decide)] at H;exact H
   clear H
   have H:=H1
   clear H1
   obtain rfl:=Option.some.inj H
   go_enter Tryz.func52,Tryz.ntmps52
   go_wp2_with (first|((with_reducible refine gate_dst (N:=1) rfl ?_);refine box_event ?hg (N:=1) ?hd (cs:=#[.int .i64 a0_0,.int .i64 a0_1,.int .i64 a0_2,.int .i64 a0_3]) (t:=45) ?hr ?_;(case hd=>rfl);(case hg=>rfl);(case hr=>first|(go_simp;done)|(go_simp;rfl));intro gb110 hg w19 hbox hb;have n0_:=aK (below_step (by repeat (first|(with_reducible first|exact HB.out|apply below_alloc|apply pw_below_drewN|apply below_drew1)|exact HB.out)) hb);have n1_:=aK (hbox);have n2_:=aK ((by rw [hg];exact (below_size (by repeat (first|(with_reducible first|exact HB.out|apply below_alloc|apply pw_below_drewN|apply below_drew1)|exact HB.out))):w.heap.size≤gb110));have n3_:=n2_;clear HB;have HB:=n0_;have BK110:=n1_;have GW110:=n2_;have GE110:=n3_;clear n0_ n1_ n2_ n3_;clear hb hbox hg;have hcz20_0:w19.cell? ⟨gb110,0,none⟩=some (.int .i64 a0_0):=(blk_cell BK110.out 0).trans rfl;have hcz20_1:w19.cell? ⟨gb110,1,none⟩=some (.int .i64 a0_1):=(blk_cell BK110.out 1).trans rfl;have hcz20_2:w19.cell? ⟨gb110,2,none⟩=some (.int .i64 a0_2):=(blk_cell BK110.out 2).trans rfl;have hcz20_3:w19.cell? ⟨gb110,3,none⟩=some (.int .i64 a0_3):=(blk_cell BK110.out 3).trans rfl;have hfz20_0:=blk_frozen BK110.out 0;have hfz20_1:=blk_frozen BK110.out 1;have hfz20_2:=blk_frozen BK110.out 2;have hfz20_3:=blk_frozen BK110.out 3)|((with_reducible refine gate_callee (f:=84) rfl ?_);refine goesL_ (some 6) rfl rfl Tryz.func84 (by kernel_rfl) rfl #[.int .i64 a0_3] rfl (by (try simp only [List.map_toArray,List.map_cons,List.map_nil]);first|done|rfl|(simp only [List.length_drop,List.length_take];rfl)) ?_;(with_reducible refine (metric_isCode.calls a0_3 t111 _ A2.out).mono ?_);rintro e w' ⟨rfl,⟨nd,rfl⟩⟩;refine ⟨_,rfl,?_⟩)|((with_reducible refine gate_callee (f:=85) rfl ?_);refine goesL_ (some 12) rfl rfl Tryz.func85 (by kernel_rfl) rfl #[.int .i64 a0_3] rfl (by (try simp only [List.map_toArray,List.map_cons,List.map_nil]);first|done|rfl|(simp only [List.length_drop,List.length_take];rfl)) ?_;(with_reducible refine (metric_isCoord.calls a0_3 t112 _ A4.out).mono ?_);rintro e w' ⟨rfl,⟨nd,rfl⟩⟩;refine ⟨_,rfl,?_⟩)|((with_reducible refine gate_callee (f:=84) rfl ?_);refine goesL_ (some 15) rfl rfl Tryz.func84 (by kernel_rfl) rfl #[.int .i64 a0_0] rfl (by (try simp only [List.map_toArray,List.map_cons,List.map_nil]);first|done|rfl|(simp only [List.length_drop,List.length_take];rfl)) ?_;(with_reducible refine (metric_isCode.calls a0_0 false _ A5.out).mono ?_);rintro e w' ⟨rfl,⟨nd,rfl⟩⟩;refine ⟨_,rfl,?_⟩))
   go_ret
   exact ⟨by first|rfl|(simp [errW_none,errW_some] <;> rfl)|(simp [*,errW_none,errW_some] <;> rfl),by repeat (first|(with_reducible first|exact HB.out|apply below_alloc|apply pw_below_drewN|apply below_drew1|refine below_set ?_ GE110.out)|exact HB.out)⟩
 ·rw [if_neg c3] at H
  have c3b0:(a0_2 == 0)=false:=beq_eq_false_iff_ne.mpr c3
  have c3b1:(a0_2 != 0)=true:=bne_iff_ne.mpr c3
  replace H:=Option.bind_eq_some_iff.mp H
  obtain ⟨t115,A210,H⟩:=H
  replace H:(if t115=true then ((metric_isCode.f a0_1).bind fun t116=>(if t116=true then (if a0_2≥0 then (if a0_2≤4 then (some t111) else (some false)) else (some false)) else (some false))) else (some false))=some r:=H
  have A21:=aK A210
  clear A210
  by_cases c22:t115=true
  ·subst c22
   have H1:((metric_isCode.f a0_1).bind fun t116=>(if t116=true then (if a0_2≥0 then (if a0_2≤4 then (some t111) else (some false)) else (some false)) else (some false)))=some r:=by rw [if_pos rfl] at H;exact H
   clear H
   have H:=H1
   clear H1
   replace H:=Option.bind_eq_some_iff.mp H
   obtain ⟨t116,A230,H⟩:=H
   replace H:(if t116=true then (if a0_2≥0 then (if a0_2≤4 then (some t111) else (some false)) else (some false)) else (some false))=some r:=H
   have A23:=aK A230
   clear A230
   by_cases c24:t116=true
   ·subst c24
    have H1:(if a0_2≥0 then (if a0_2≤4 then (some t111) else (some false)) else (some false))=some r:=by rw [if_pos rfl] at H;exact H
    clear H
    have H:=H1
    clear H1
    by_cases c25:a0_2≥0
    ·rw [if_pos c25] at H
     have c25b0:decide (0≤a0_2)=true:=decide_eq_true c25
     clear c25
     by_cases c26:a0_2≤4
     ·rw [if_pos c26] at H
      have c26b0:decide (a0_2≤4)=true:=decide_eq_true c26
      clear c26
      obtain rfl:=Option.some.inj H
      go_enter Tryz.func52,Tryz.ntmps52
      go_wp2_with (first|((with_reducible refine gate_dst (N:=1) rfl ?_);refine box_event ?hg (N:=1) ?hd (cs:=#[.int .i64 a0_0,.int .i64 a0_1,.int .i64 a0_2,.int .i64 a0_3]) (t:=45) ?hr ?_;(case hd=>rfl);(case hg=>rfl);(case hr=>first|(go_simp;done)|(go_simp;rfl));intro gb110 hg w27 hbox hb;have n0_:=aK (below_step (by repeat (first|(with_reducible first|exact HB.out|apply below_alloc|apply pw_below_drewN|apply below_drew1)|exact HB.out)) hb);have n1_:=aK (hbox);have n2_:=aK ((by rw [hg];exact (below_size (by repeat (first|(with_reducible first|exact HB.out|apply below_alloc|apply pw_below_drewN|apply below_drew1)|exact HB.out))):w.heap.size≤gb110));have n3_:=n2_;clear HB;have HB:=n0_;have BK110:=n1_;have GW110:=n2_;have GE110:=n3_;clear n0_ n1_ n2_ n3_;clear hb hbox hg;have hcz28_0:w27.cell? ⟨gb110,0,none⟩=some (.int .i64 a0_0):=(blk_cell BK110.out 0).trans rfl;have hcz28_1:w27.cell? ⟨gb110,1,none⟩=some (.int .i64 a0_1):=(blk_cell BK110.out 1).trans rfl;have hcz28_2:w27.cell? ⟨gb110,2,none⟩=some (.int .i64 a0_2):=(blk_cell BK110.out 2).trans rfl;have hcz28_3:w27.cell? ⟨gb110,3,none⟩=some (.int .i64 a0_3):=(blk_cell BK110.out 3).trans rfl;have hfz28_0:=blk_frozen BK110.out 0;have hfz28_1:=blk_frozen BK110.out 1;have hfz28_2:=blk_frozen BK110.out 2;have hfz28_3:=blk_frozen BK110.out 3)|((with_reducible refine gate_callee (f:=84) rfl ?_);refine goesL_ (some 6) rfl rfl Tryz.func84 (by kernel_rfl) rfl #[.int .i64 a0_3] rfl (by (try simp only [List.map_toArray,List.map_cons,List.map_nil]);first|done|rfl|(simp only [List.length_drop,List.length_take];rfl)) ?_;(with_reducible refine (metric_isCode.calls a0_3 t111 _ A2.out).mono ?_);rintro e w' ⟨rfl,⟨nd,rfl⟩⟩;refine ⟨_,rfl,?_⟩)|((with_reducible refine gate_callee (f:=84) rfl ?_);refine goesL_ (some 15) rfl rfl Tryz.func84 (by kernel_rfl) rfl #[.int .i64 a0_0] rfl (by (try simp only [List.map_toArray,List.map_cons,List.map_nil]);first|done|rfl|(simp only [List.length_drop,List.length_take];rfl)) ?_;(with_reducible refine (metric_isCode.calls a0_0 true _ A21.out).mono ?_);rintro e w' ⟨rfl,⟨nd,rfl⟩⟩;refine ⟨_,rfl,?_⟩)|(go_at_call 84;(with_reducible refine (metric_isCode.calls a0_1 true _ A23.out).mono ?_);rintro e w' ⟨rfl,⟨nd,rfl⟩⟩))
      go_ret
      exact ⟨by first|rfl|(simp [errW_none,errW_some] <;> rfl)|(simp [*,errW_none,errW_some] <;> rfl),by repeat (first|(with_reducible first|exact HB.out|apply below_alloc|apply pw_below_drewN|apply below_drew1|refine below_set ?_ GE110.out)|exact HB.out)⟩
     ·rw [if_neg c26] at H
      have c26b0:decide (a0_2≤4)=false:=decide_eq_false c26
      clear c26
      obtain rfl:=Option.some.inj H
      go_enter Tryz.func52,Tryz.ntmps52
      go_wp2_with (first|((with_reducible refine gate_dst (N:=1) rfl ?_);refine box_event ?hg (N:=1) ?hd (cs:=#[.int .i64 a0_0,.int .i64 a0_1,.int .i64 a0_2,.int .i64 a0_3]) (t:=45) ?hr ?_;(case hd=>rfl);(case hg=>rfl);(case hr=>first|(go_simp;done)|(go_simp;rfl));intro gb110 hg w29 hbox hb;have n0_:=aK (below_step (by repeat (first|(with_reducible first|exact HB.out|apply below_alloc|apply pw_below_drewN|apply below_drew1)|exact HB.out)) hb);have n1_:=aK (hbox);have n2_:=aK ((by rw [hg];exact (below_size (by repeat (first|(with_reducible first|exact HB.out|apply below_alloc|apply pw_below_drewN|apply below_drew1)|exact HB.out))):w.heap.size≤gb110));have n3_:=n2_;clear HB;have HB:=n0_;have BK110:=n1_;have GW110:=n2_;have GE110:=n3_;clear n0_ n1_ n2_ n3_;clear hb hbox hg;have hcz30_0:w29.cell? ⟨gb110,0,none⟩=some (.int .i64 a0_0):=(blk_cell BK110.out 0).trans rfl;have hcz30_1:w29.cell? ⟨gb110,1,none⟩=some (.int .i64 a0_1):=(blk_cell BK110.out 1).trans rfl;have hcz30_2:w29.cell? ⟨gb110,2,none⟩=some (.int .i64 a0_2):=(blk_cell BK110.out 2).trans rfl;have hcz30_3:w29.cell? ⟨gb110,3,none⟩=some (.int .i64 a0_3):=(blk_cell BK110.out 3).trans rfl;have hfz30_0:=blk_frozen BK110.out 0;have hfz30_1:=blk_frozen BK110.out 1;have hfz30_2:=blk_frozen BK110.out 2;have hfz30_3:=blk_frozen BK110.out 3)|((with_reducible refine gate_callee (f:=84) rfl ?_);refine goesL_ (some 6) rfl rfl Tryz.func84 (by kernel_rfl) rfl #[.int .i64 a0_3] rfl (by (try simp only [List.map_toArray,List.map_cons,List.map_nil]);first|done|rfl|(simp only [List.length_drop,List.length_take];rfl)) ?_;(with_reducible refine (metric_isCode.calls a0_3 t111 _ A2.out).mono ?_);rintro e w' ⟨rfl,⟨nd,rfl⟩⟩;refine ⟨_,rfl,?_⟩)|((with_reducible refine gate_callee (f:=84) rfl ?_);refine goesL_ (some 15) rfl rfl Tryz.func84 (by kernel_rfl) rfl #[.int .i64 a0_0] rfl (by (try simp only [List.map_toArray,List.map_cons,List.map_nil]);first|done|rfl|(simp only [List.length_drop,List.length_take];rfl)) ?_;(with_reducible refine (metric_isCode.calls a0_0 true _ A21.out).mono ?_);rintro e w' ⟨rfl,⟨nd,rfl⟩⟩;refine ⟨_,rfl,?_⟩)|(go_at_call 84;(with_reducible refine (metric_isCode.calls a0_1 true _ A23.out).mono ?_);rintro e w' ⟨rfl,⟨nd,rfl⟩⟩))
      go_ret
      exact ⟨by first|rfl|(simp [errW_none,errW_some] <;> rfl)|(simp [*,errW_none,errW_some] <;> rfl),by repeat (first|(with_reducible first|exact HB.out|apply below_alloc|apply pw_below_drewN|apply below_drew1|refine below_set ?_ GE110.out)|exact HB.out)⟩
    ·rw [if_neg c25] at H
     have c25b0:decide (0≤a0_2)=false:=decide_eq_false c25
     clear c25
     obtain rfl:=Option.some.inj H
     go_enter Tryz.func52,Tryz.ntmps52
     go_wp2_with (first|((with_reducible refine gate_dst (N:=1) rfl ?_);refine box_event ?hg (N:=1) ?hd (cs:=#[.int .i64 a0_0,.int .i64 a0_1,.int .i64 a0_2,.int .i64 a0_3]) (t:=45) ?hr ?_;(case hd=>rfl);(case hg=>rfl);(case hr=>first|(go_simp;done)|(go_simp;rfl));intro gb110 hg w31 hbox hb;have n0_:=aK (below_step (by repeat (first|(with_reducible first|exact HB.out|apply below_alloc|apply pw_below_drewN|apply below_drew1)|exact HB.out)) hb);have n1_:=aK (hbox);have n2_:=aK ((by rw [hg];exact (below_size (by repeat (first|(with_reducible first|exact HB.out|apply below_alloc|apply pw_below_drewN|apply below_drew1)|exact HB.out))):w.heap.size≤gb110));have n3_:=n2_;clear HB;have HB:=n0_;have BK110:=n1_;have GW110:=n2_;have GE110:=n3_;clear n0_ n1_ n2_ n3_;clear hb hbox hg;have hcz32_0:w31.cell? ⟨gb110,0,none⟩=some (.int .i64 a0_0):=(blk_cell BK110.out 0).trans rfl;have hcz32_1:w31.cell? ⟨gb110,1,none⟩=some (.int .i64 a0_1):=(blk_cell BK110.out 1).trans rfl;have hcz32_2:w31.cell? ⟨gb110,2,none⟩=some (.int .i64 a0_2):=(blk_cell BK110.out 2).trans rfl;have hcz32_3:w31.cell? ⟨gb110,3,none⟩=some (.int .i64 a0_3):=(blk_cell BK110.out 3).trans rfl;have hfz32_0:=blk_frozen BK110.out 0;have hfz32_1:=blk_frozen BK110.out 1;have hfz32_2:=blk_frozen BK110.out 2;have hfz32_3:=blk_frozen BK110.out 3)|((with_reducible refine gate_callee (f:=84) rfl ?_);refine goesL_ (some 6) rfl rfl Tryz.func84 (by kernel_rfl) rfl #[.int .i64 a0_3] rfl (by (try simp only [List.map_toArray,List.map_cons,List.map_nil]);first|done|rfl|(simp only [List.length_drop,List.length_take];rfl)) ?_;(with_reducible refine (metric_isCode.calls a0_3 t111 _ A2.out).mono ?_);rintro e w' ⟨rfl,⟨nd,rfl⟩⟩;refine ⟨_,rfl,?_⟩)|((with_reducible refine gate_callee (f:=84) rfl ?_);refine goesL_ (some 15) rfl rfl Tryz.func84 (by kernel_rfl) rfl #[.int .i64 a0_0] rfl (by (try simp only [List.map_toArray,List.map_cons,List.map_nil]);first|done|rfl|(simp only [List.length_drop,List.length_take];rfl)) ?_;(with_reducible refine (metric_isCode.calls a0_0 true _ A21.out).mono ?_);rintro e w' ⟨rfl,⟨nd,rfl⟩⟩;refine ⟨_,rfl,?_⟩)|(go_at_call 84;(with_reducible refine (metric_isCode.calls a0_1 true _ A23.out).mono ?_);rintro e w' ⟨rfl,⟨nd,rfl⟩⟩))
     go_ret
     exact ⟨by first|rfl|(simp [errW_none,errW_some] <;> rfl)|(simp [*,errW_none,errW_some] <;> rfl),by repeat (first|(with_reducible first|exact HB.out|apply below_alloc|apply pw_below_drewN|apply below_drew1|refine below_set ?_ GE110.out)|exact HB.out)⟩
   ·replace c24:=Bool.eq_false_iff.mpr c24
    subst c24
    have H1:(some false)=some r:=by rw [if_neg (show ¬ (false=true) by decide)] at H;exact H
    clear H
    have H:=H1
    clear H1
    obtain rfl:=Option.some.inj H
    go_enter Tryz.func52,Tryz.ntmps52
    go_wp2_with (first|((with_reducible refine gate_dst (N:=1) rfl ?_);refine box_event ?hg (N:=1) ?hd (cs:=#[.int .i64 a0_0,.int .i64 a0_1,.int .i64 a0_2,.int .i64 a0_3]) (t:=45) ?hr ?_;(case hd=>rfl);(case hg=>rfl);(case hr=>first|(go_simp;done)|(go_simp;rfl));intro gb110 hg w33 hbox hb;have n0_:=aK (below_step (by repeat (first|(with_reducible first|exact HB.out|apply below_alloc|apply pw_below_drewN|apply below_drew1)|exact HB.out)) hb);have n1_:=aK (hbox);have n2_:=aK ((by rw [hg];exact (below_size (by repeat (first|(with_reducible first|exact HB.out|apply below_alloc|apply pw_below_drewN|apply below_drew1)|exact HB.out))):w.heap.size≤gb110));have n3_:=n2_;clear HB;have HB:=n0_;have BK110:=n1_;have GW110:=n2_;have GE110:=n3_;clear n0_ n1_ n2_ n3_;clear hb hbox hg;have hcz34_0:w33.cell? ⟨gb110,0,none⟩=some (.int .i64 a0_0):=(blk_cell BK110.out 0).trans rfl;have hcz34_1:w33.cell? ⟨gb110,1,none⟩=some (.int .i64 a0_1):=(blk_cell BK110.out 1).trans rfl;have hcz34_2:w33.cell? ⟨gb110,2,none⟩=some (.int .i64 a0_2):=(blk_cell BK110.out 2).trans rfl;have hcz34_3:w33.cell? ⟨gb110,3,none⟩=some (.int .i64 a0_3):=(blk_cell BK110.out 3).trans rfl;have hfz34_0:=blk_frozen BK110.out 0;have hfz34_1:=blk_frozen BK110.out 1;have hfz34_2:=blk_frozen BK110.out 2;have hfz34_3:=blk_frozen BK110.out 3)|((with_reducible refine gate_callee (f:=84) rfl ?_);refine goesL_ (some 6) rfl rfl Tryz.func84 (by kernel_rfl) rfl #[.int .i64 a0_3] rfl (by (try simp only [List.map_toArray,List.map_cons,List.map_nil]);first|done|rfl|(simp only [List.length_drop,List.length_take];rfl)) ?_;(with_reducible refine (metric_isCode.calls a0_3 t111 _ A2.out).mono ?_);rintro e w' ⟨rfl,⟨nd,rfl⟩⟩;refine ⟨_,rfl,?_⟩)|((with_reducible refine gate_callee (f:=84) rfl ?_);refine goesL_ (some 15) rfl rfl Tryz.func84 (by kernel_rfl) rfl #[.int .i64 a0_0] rfl (by (try simp only [List.map_toArray,List.map_cons,List.map_nil]);first|done|rfl|(simp only [List.length_drop,List.length_take];rfl)) ?_;(with_reducible refine (metric_isCode.calls a0_0 true _ A21.out).mono ?_);rintro e w' ⟨rfl,⟨nd,rfl⟩⟩;refine ⟨_,rfl,?_⟩)|(go_at_call 84;(with_reducible refine (metric_isCode.calls a0_1 false _ A23.out).mono ?_);rintro e w' ⟨rfl,⟨nd,rfl⟩⟩))
    go_ret
    exact ⟨by first|rfl|(simp [errW_none,errW_some] <;> rfl)|(simp [*,errW_none,errW_some] <;> rfl),by repeat (first|(with_reducible first|exact HB.out|apply below_alloc|apply pw_below_drewN|apply below_drew1|refine below_set ?_ GE110.out)|exact HB.out)⟩
  ·replace c22:=Bool.eq_false_iff.mpr c22
   subst c22
   have H1:(some false)=some r:=by rw [if_neg (show ¬ (false=true) by decide)] at H;exact H
   clear H
   have H:=H1
   clear H1
   obtain rfl:=Option.some.inj H
   go_enter Tryz.func52,Tryz.ntmps52
   go_wp2_with (first|((with_reducible refine gate_dst (N:=1) rfl ?_);refine box_event ?hg (N:=1) ?hd (cs:=#[.int .i64 a0_0,.int .i64 a0_1,.int .i64 a0_2,.int .i64 a0_3]) (t:=45) ?hr ?_;(case hd=>rfl);(case hg=>rfl);(case hr=>first|(go_simp;done)|(go_simp;rfl));intro gb110 hg w35 hbox hb;have n0_:=aK (below_step (by repeat (first|(with_reducible first|exact HB.out|apply below_alloc|apply pw_below_drewN|apply below_drew1)|exact HB.out)) hb);have n1_:=aK (hbox);have n2_:=aK ((by rw [hg];exact (below_size (by repeat (first|(with_reducible first|exact HB.out|apply below_alloc|apply pw_below_drewN|apply below_drew1)|exact HB.out))):w.heap.size≤gb110));have n3_:=n2_;clear HB;have HB:=n0_;have BK110:=n1_;have GW110:=n2_;have GE110:=n3_;clear n0_ n1_ n2_ n3_;clear hb hbox hg;have hcz36_0:w35.cell? ⟨gb110,0,none⟩=some (.int .i64 a0_0):=(blk_cell BK110.out 0).trans rfl;have hcz36_1:w35.cell? ⟨gb110,1,none⟩=some (.int .i64 a0_1):=(blk_cell BK110.out 1).trans rfl;have hcz36_2:w35.cell? ⟨gb110,2,none⟩=some (.int .i64 a0_2):=(blk_cell BK110.out 2).trans rfl;have hcz36_3:w35.cell? ⟨gb110,3,none⟩=some (.int .i64 a0_3):=(blk_cell BK110.out 3).trans rfl;have hfz36_0:=blk_frozen BK110.out 0;have hfz36_1:=blk_frozen BK110.out 1;have hfz36_2:=blk_frozen BK110.out 2;have hfz36_3:=blk_frozen BK110.out 3)|((with_reducible refine gate_callee (f:=84) rfl ?_);refine goesL_ (some 6) rfl rfl Tryz.func84 (by kernel_rfl) rfl #[.int .i64 a0_3] rfl (by (try simp only [List.map_toArray,List.map_cons,List.map_nil]);first|done|rfl|(simp only [List.length_drop,List.length_take];rfl)) ?_;(with_reducible refine (metric_isCode.calls a0_3 t111 _ A2.out).mono ?_);rintro e w' ⟨rfl,⟨nd,rfl⟩⟩;refine ⟨_,rfl,?_⟩)|((with_reducible refine gate_callee (f:=84) rfl ?_);refine goesL_ (some 15) rfl rfl Tryz.func84 (by kernel_rfl) rfl #[.int .i64 a0_0] rfl (by (try simp only [List.map_toArray,List.map_cons,List.map_nil]);first|done|rfl|(simp only [List.length_drop,List.length_take];rfl)) ?_;(with_reducible refine (metric_isCode.calls a0_0 false _ A21.out).mono ?_);rintro e w' ⟨rfl,⟨nd,rfl⟩⟩;refine ⟨_,rfl,?_⟩))
   go_ret
   exact ⟨by first|rfl|(simp [errW_none,errW_some] <;> rfl)|(simp [*,errW_none,errW_some] <;> rfl),by repeat (first|(with_reducible first|exact HB.out|apply below_alloc|apply pw_below_drewN|apply below_drew1|refine below_set ?_ GE110.out)|exact HB.out)⟩
def cmp_Or_int.l0 : Nat → Int → List Int → Int → Int → Option (Int)
 | 0,_,_,_,_=>none
 | k+1,x3,x6,x7,x8=>if x8<x7 then (if 0≤x8 then (if x8<(x6.length:Int) then (if (rd x6 x8)=x3 then (cmp_Or_int.l0 k x3 x6 x7 (wrap64 (x8+1))) else (some (rd x6 x8))) else (none)) else (none)) else (some x3)
def cmp_Or_int.f (k:Nat) (l0:List Int):Option (Int):=cmp_Or_int.l0 k 0 l0 (l0.length:Int) 0
theorem cmp_Or_int.mono_l : ∀ k, (∀ y0 y1 y2 y3, LeO (cmp_Or_int.l0 k y0 y1 y2 y3) (cmp_Or_int.l0 (k + 1) y0 y1 y2 y3))
 | 0=>fun _ _ _ _ r h=>by simp [cmp_Or_int.l0] at h
 | k+1=>by
  have ih0:=cmp_Or_int.mono_l k
  ·intro y0 y1 y2 y3
   unfold cmp_Or_int.l0
   repeat' first
   | (with_reducible exact ih0 _ _ _ _)
   | (with_reducible exact LeO.refl _)
   | (with_reducible exact LeO.none _)
   | (with_reducible refine LeO.ite ?_ ?_)
   | (with_reducible refine LeO.bind ?_ (fun _=>?_))
   | exact ih0 _ _ _ _
   | exact LeO.none _
   | refine LeO.ite ?_ ?_
   | refine LeO.bind ?_ (fun _=>?_)
theorem cmp_Or_int.mono : ∀ a0 k,LeO (cmp_Or_int.f k a0) (cmp_Or_int.f (k+1) a0):=by
 intro a0 k
 have ih0:=cmp_Or_int.mono_l k
 unfold cmp_Or_int.f
 repeat' first
   | (with_reducible exact ih0 _ _ _ _)
   | (with_reducible exact LeO.refl _)
   | (with_reducible exact LeO.none _)
   | (with_reducible refine LeO.ite ?_ ?_)
   | (with_reducible refine LeO.bind ?_ (fun _=>?_))
   | exact ih0 _ _ _ _
   | exact LeO.none _
   | refine LeO.ite ?_ ?_
   | refine LeO.bind ?_ (fun _=>?_)
set_option maxHeartbeats 8000000 in
theorem cmp_Or_int.calls (k : Nat) (A0 : Option Addr) (c0 : Nat) (l0 : List Int) (r : Int) (w : World) (hr0 : Kd.C (Kd.int .i64) w A0 l0.length l0) (hc0 : l0.length ≤ c0) (h : cmp_Or_int.f k l0 = some r) :
  Calls Tryz.prog 94 #[.slice A0 l0.length c0] w fun e w'=>e = .returned (.int .i64 r)∧Drawn0 w w':=by
 have HR0:=aK hr0
 have HC0:=aK hc0
 clear hr0 hc0
 have H:(cmp_Or_int.l0 k 0 l0 (l0.length:Int) 0)=some r:=h
 clear h
 have H':=aK H
 clear H
 go_enter Tryz.func94,Tryz.ntmps94
 go_wp2
 go_loopg [8] k (fun kq v8 w'=>∃ (x8_1:Int),v8 = .int .i64 x8_1∧Aside0 (cmp_Or_int.l0 kq 0 l0 (l0.length:Int) x8_1=some r)∧Aside0 (kq≤k)∧Drawn0 w w')
 case atStart=>exact ⟨(0),(by first|rfl|(simp;done)|(simp [*];done)),H',⟨Nat.le_refl _⟩,by repeat (first|exact Drawn0.refl _|apply Drawn0.step)⟩
 case round =>
  clear H'
  obtain ⟨x8_1,rfl,HA,HK1,⟨m1,rfl⟩⟩:=hrel
  cases gk with
  | zero=>exact absurd HA.out (by simp [cmp_Or_int.l0])
  | succ k1 =>
   have H:=HA.out
   clear HA
   simp only [cmp_Or_int.l0] at H
   by_cases c2:x8_1<(l0.length:Int)
   ·rw [if_pos c2] at H
    have c2b0:decide (x8_1<(l0.length:Int))=true:=decide_eq_true c2
    clear c2
    by_cases c3:0≤x8_1
    ·rw [if_pos c3] at H
     have c3b0:decide (0≤x8_1)=true:=decide_eq_true c3
     clear c3
     by_cases c4:x8_1<(l0.length:Int)
     ·rw [if_pos c4] at H
      have c4b0:decide (x8_1<(l0.length:Int))=true:=decide_eq_true c4
      clear c4
      by_cases c5:(rd l0 x8_1)=0
      ·rw [if_pos c5] at H
       have c5b0:((rd l0 x8_1) == 0)=true:=beq_iff_eq.mpr c5
       have c5b1:((rd l0 x8_1) != 0)=false:=bne_eq_false_iff_eq.mpr c5
       clear c5
       have H':=aK H
       clear H
       have p117:0≤(x8_1:Int):=of_decide_eq_true (by first|(with_reducible assumption)|assumption)
       have q117:x8_1<(l0.length:Int):=of_decide_eq_true (by first|(with_reducible assumption)|assumption)
       obtain ⟨ad117,e117,hx117_0⟩:=Kd.at_int HR0.out x8_1 p117 q117
       cases e117
       replace p117:=eq_true p117
       replace q117:=eq_true q117
       go_wp2
       go_roundg k1
       case measure=>have:=HK1.out;omega
       case rel=>exact ⟨(wrap64 (x8_1+1)),(by first|rfl|(simp;done)|(simp [*];done)),H',⟨by have:=HK1.out;omega⟩,by repeat (first|exact Drawn0.refl _|apply Drawn0.step)⟩
      ·rw [if_neg c5] at H
       have c5b0:((rd l0 x8_1) == 0)=false:=beq_eq_false_iff_ne.mpr c5
       have c5b1:((rd l0 x8_1) != 0)=true:=bne_iff_ne.mpr c5
       obtain rfl:=Option.some.inj H
       have p117:0≤(x8_1:Int):=of_decide_eq_true (by first|(with_reducible assumption)|assumption)
       have q117:x8_1<(l0.length:Int):=of_decide_eq_true (by first|(with_reducible assumption)|assumption)
       obtain ⟨ad117,e117,hx117_0⟩:=Kd.at_int HR0.out x8_1 p117 q117
       cases e117
       replace p117:=eq_true p117
       replace q117:=eq_true q117
       go_wp2
       go_ret
       exact ⟨by first|rfl|(simp;done)|(simp [*];done),by repeat (first|exact Drawn0.refl _|apply Drawn0.step)⟩
     ·rw [if_neg c4] at H
      exact absurd H (by simp)
    ·rw [if_neg c3] at H
     exact absurd H (by simp)
   ·rw [if_neg c2] at H
    have c2b0:decide (x8_1<(l0.length:Int))=false:=decide_eq_false c2
    clear c2
    obtain rfl:=Option.some.inj H
    go_wp2
    go_ret
    exact ⟨by first|rfl|(simp;done)|(simp [*];done),by repeat (first|exact Drawn0.refl _|apply Drawn0.step)⟩
def cmpR (x y:S45):Int:=if cmpI x.f0 y.f0=0 then cmpI x.f1 y.f1 else cmpI x.f0 y.f0
theorem or_is (a b:Int):cmp_Or_int.f 3 [a,b]=some (if a=0 then b else a):=by
 unfold cmp_Or_int.f
 by_cases h:a=0
 ·subst h
  by_cases h':b=0
  ·subst h';simp [cmp_Or_int.l0,rd,wrap64]
  ·simp [cmp_Or_int.l0,rd,wrap64,h']
 ·simp [cmp_Or_int.l0,rd,wrap64,h]
theorem reps_nums {w:World} {base:Nat} {ok:Nat→Prop} (xs:List Int):Reps ((Kd.int .i64).M w base ok) (Kd.int .i64).sz xs (nums .i64 xs):=by
 refine ⟨by rw [nums,List.length_map];exact (Nat.mul_one _).symm,fun j p hj=>?_⟩
 obtain ⟨hx,rfl⟩:=List.getElem?_eq_some_iff.1 hj
 show ((xs.map (Value.int .i64)).drop (j*1)).take 1=[Value.int .i64 xs[j]]
 rw [Nat.mul_one,List.drop_eq_getElem_cons (by simpa using hx)]
 simp
theorem lit_C (W:World) (t:TypeId) (xs:List Int) (h:xs.length≤9223372036854775807):Kd.C (Kd.int .i64) (W.alloc (.cells (nums .i64 xs).toArray t)) (some ⟨W.heap.size,0,none⟩) xs.length xs:=by
 have hR:Kd.R (Kd.int .i64) t (W.alloc (.cells (nums .i64 xs).toArray t)) W.heap.size (fun _=>True) (.slice (some ⟨W.heap.size,0,none⟩) xs.length xs.length) xs:=⟨fun _ _=>trivial,nums .i64 xs,own_lit W W.heap.size t .i64 xs (Nat.le_refl _) h,reps_nums xs⟩
 exact (Kd.R_reads' hR).2.2
set_option maxHeartbeats 4000000 in
theorem cmpR_grows (x y:S45) (W:World):Calls Tryz.prog 55 #[.agg #[.int .i64 x.f0,.int .i64 x.f1,.int .i64 x.f2,.int .i64 x.f3],.agg #[.int .i64 y.f0,.int .i64 y.f1,.int .i64 y.f2,.int .i64 y.f3]] W fun e w'=>e = .returned (.int .i64 (cmpR x y))∧Below W.heap.size W w'∧W.drawn≤w'.drawn:=by
 have hu:=Tryz.underlying45
 have HC1:=aK (fun V=>cmp_Compare_int.calls x.f0 y.f0 _ V (cmpI_is _ _))
 have HC2:=aK (fun V=>cmp_Compare_int.calls x.f1 y.f1 _ V (cmpI_is _ _))
 have HR:Aside0 (cmpR x y=if cmpI x.f0 y.f0=0 then cmpI x.f1 y.f1 else cmpI x.f0 y.f0):=⟨rfl⟩
 generalize cmpR x y=r at *
 generalize cmpI x.f0 y.f0=v0 at *
 generalize cmpI x.f1 y.f1=v1 at *
 have HO:Aside0 (∀ V:World,Calls Tryz.prog 94 #[.slice (some ⟨V.heap.size,0,none⟩) 2 2] (V.alloc (.cells #[.int .i64 v0,.int .i64 v1] 3)) fun e w'=>e = .returned (.int .i64 r)∧Drawn0 (V.alloc (.cells #[.int .i64 v0,.int .i64 v1] 3)) w'):=⟨fun V=>cmp_Or_int.calls 3 (some ⟨V.heap.size,0,none⟩) 2 [v0,v1] r _ (lit_C V 3 [v0,v1] (by simp)) (by simp) (by rw [or_is,HR.out])⟩
 have X0:=blk_alloc (blk_new W (.cells #[.int .i64 x.f0,.int .i64 x.f1,.int .i64 x.f2,.int .i64 x.f3] 45)) (.cells #[.int .i64 y.f0,.int .i64 y.f1,.int .i64 y.f2,.int .i64 y.f3] 45)
 have Y0:=blk_new (W.alloc (.cells #[.int .i64 x.f0,.int .i64 x.f1,.int .i64 x.f2,.int .i64 x.f3] 45)) (.cells #[.int .i64 y.f0,.int .i64 y.f1,.int .i64 y.f2,.int .i64 y.f3] 45)
 simp only [World.size_alloc] at Y0
 have P0:=aK ((blk_cell (blk_drew X0) 0).trans rfl)
 have P1:=aK ((blk_cell (blk_drew X0) 1).trans rfl)
 have P2:=aK ((blk_cell (blk_drew Y0) 0).trans rfl)
 have P3:=aK ((blk_cell (blk_drew Y0) 1).trans rfl)
 clear X0 Y0 HR
 go_enter Tryz.func55,Tryz.ntmps55
 go_wp2
 generalize hV:(W.alloc (.cells #[.int .i64 x.f0,.int .i64 x.f1,.int .i64 x.f2,.int .i64 x.f3] 45)).alloc (.cells #[.int .i64 y.f0,.int .i64 y.f1,.int .i64 y.f2,.int .i64 y.f3] 45)=V at *
 refine start_ (n:=13) (S:=fun w'=>w'.cell? ⟨W.heap.size,0,none⟩=some (.int .i64 x.f0)∧w'.cell? ⟨W.heap.size,1,none⟩=some (.int .i64 x.f1)∧w'.cell? ⟨W.heap.size+1,0,none⟩=some (.int .i64 y.f0)∧w'.cell? ⟨W.heap.size+1,1,none⟩=some (.int .i64 y.f1)) (ds:=[10,11]) #[false,false,false,false,false,false,false,false,false,false,false,false,false] (by kernel_rfl) rfl rfl ⟨P0.out,P1.out,P2.out,P3.out⟩ (fun hHeld=>?_)
 refine pu 0 (some 5) ?_ rfl rfl (by kernel_rfl) (fun _ _ _ h=>h) (.inl ⟨by rfl,?_⟩) ?_ ?_ ?_;rotate_left;intro w';go_simp;with_reducible rfl;rotate_left;simp only [nS];rfl
 refine pu 2 (some 7) ?_ rfl rfl (by kernel_rfl) (fun _ _ _ h=>h) (.inl ⟨by rfl,?_⟩) ?_ ?_ ?_;rotate_left;intro w';go_simp;with_reducible rfl;rotate_left;simp only [nS];rfl
 refine pu 5 (some 10) ?_ rfl rfl (by kernel_rfl) (fun _ _ _ h=>h) (.inl ⟨by rfl,?_⟩) ?_ ?_ ?_;rotate_left;intro w';go_simp;with_reducible rfl;rotate_left;simp only [nS];rfl
 refine pu 7 (some 12) ?_ rfl rfl (by kernel_rfl) (fun _ _ _ h=>h) (.inl ⟨by rfl,?_⟩) ?_ ?_ ?_;rotate_left;intro w';go_simp;with_reducible rfl;rotate_left;simp only [nS];rfl
 refine tk 1 (some 6) ?_ rfl rfl (by kernel_rfl) (fun _ _ _ h=>h) (.inl ⟨by rfl,?_⟩) hHeld ?_ ?_ ?_;rotate_left;rintro w' ⟨s0,s1,s2,s3⟩;go_simp;with_reducible rfl;rotate_left;simp only [nS];rfl
 refine tk 3 (some 8) ?_ rfl rfl (by kernel_rfl) (fun _ _ _ h=>h) (.inl ⟨by rfl,?_⟩) hHeld ?_ ?_ ?_;rotate_left;rintro w' ⟨s0,s1,s2,s3⟩;go_simp;with_reducible rfl;rotate_left;simp only [nS];rfl
 refine tk 6 (some 11) ?_ rfl rfl (by kernel_rfl) (fun _ _ _ h=>h) (.inl ⟨by rfl,?_⟩) hHeld ?_ ?_ ?_;rotate_left;rintro w' ⟨s0,s1,s2,s3⟩;go_simp;with_reducible rfl;rotate_left;simp only [nS];rfl
 refine tk 8 (some 13) ?_ rfl rfl (by kernel_rfl) (fun _ _ _ h=>h) (.inl ⟨by rfl,?_⟩) hHeld ?_ ?_ ?_;rotate_left;rintro w' ⟨s0,s1,s2,s3⟩;go_simp;with_reducible rfl;rotate_left;simp only [nS];rfl
 refine one_ (i:=4) (N:=some 9) #[true,true,true,true,true,true,true,true,true,false,false,false,false] rfl rfl (by kernel_rfl) (by decide) (fun K hK=>?_)
 refine goes_ Tryz.func86 (by kernel_rfl) rfl #[.int .i64 x.f0,.int .i64 y.f0] (by rfl) rfl rfl (by simp only [List.map_toArray,List.map_cons,List.map_nil];rfl) ?_
 refine (HC1.out _).mono ?_
 rintro e w3_n1 ⟨rfl,⟨n1,rfl⟩⟩
 refine ⟨_,rfl,?_⟩
 refine hK.out _ _ ⟨hHeld.1,hHeld.2.1,hHeld.2.2.1,hHeld.2.2.2⟩ (fun hHeld=>?_)
 clear hK K
 refine norm_ (a':=?_) ?_ ?_;rotate_left;show Act.put _ (some 9) _=_;simp only [nS];rfl
 refine one_ (i:=9) (N:=some 14) #[true,true,true,true,true,true,true,true,true,true,false,false,false] rfl rfl (by kernel_rfl) (by decide) (fun K hK=>?_)
 refine goes_ Tryz.func86 (by kernel_rfl) rfl #[.int .i64 x.f1,.int .i64 y.f1] (by rfl) rfl rfl (by simp only [List.map_toArray,List.map_cons,List.map_nil];rfl) ?_
 refine (HC2.out _).mono ?_
 rintro e w3_n2 ⟨rfl,⟨n2,rfl⟩⟩
 refine ⟨_,rfl,?_⟩
 refine hK.out _ _ ⟨hHeld.1,hHeld.2.1,hHeld.2.2.1,hHeld.2.2.2⟩ (fun hHeld=>?_)
 clear hK K
 refine norm_ (a':=?_) ?_ ?_;rotate_left;show Act.put _ (some 14) _=_;simp only [nS];rfl
 refine last_ (i:=10) (N:=some 15) #[true,true,true,true,true,true,true,true,true,true,true,false,false] rfl rfl (by kernel_rfl) (by decide) (fun K hK=>?_)
 refine value_ (w1:=?_) (v:=?_) (by rfl) rfl ?_ ?_
 rotate_left 2
 ·go_simp
  constructor
  ·rfl
  ·rfl
 refine hK.out _ _ ?_
 clear hK K
 refine norm_ (a':=?_) ?_ ?_;rotate_left;show Act.put _ (some 15) _=_;simp only [nS];rfl
 refine last_ (i:=11) (N:=some 16) #[true,true,true,true,true,true,true,true,true,true,true,true,false] rfl rfl (by kernel_rfl) (by decide) (fun K hK=>?_)
 refine goes_ Tryz.func94 (by kernel_rfl) rfl #[.slice (some ⟨V.heap.size,0,none⟩) 2 2] (by rfl) rfl rfl (by simp only [List.map_toArray,List.map_cons,List.map_nil];rfl) ?_
 refine (HO.out _).mono ?_
 rintro e w9 ⟨rfl,⟨n3,rfl⟩⟩
 refine ⟨_,rfl,?_⟩
 refine hK.out _ _ ?_
 clear hK K
 refine norm_ (a':=?_) ?_ ?_;rotate_left;show Act.put _ (some 16) _=_;simp only [nS];rfl
 refine pu 12 (some 4) ?_ rfl rfl (by kernel_rfl) (fun _ _ _ h=>h) (.inl ⟨by rfl,?_⟩) ?_ ?_ ?_;rotate_left;intro w';go_simp;with_reducible rfl;rotate_left;simp only [nS];rfl
 refine done_ (by kernel_rfl) ?_
 go_wp2
 go_ret
 refine ⟨rfl,?_,?_⟩
 ·subst hV
  exact pw_below_drewN (below_alloc (pw_below_drewN (below_alloc (below_alloc (Below.refl W.heap.size W) _) _) _) _) _
 ·subst hV
  show W.drawn≤W.drawn+(1+n1+n2)+n3
  omega
theorem cmpR_calls (W:World) (x y:S45):Calls Tryz.prog 55 #[.agg #[.int .i64 x.f0,.int .i64 x.f1,.int .i64 x.f2,.int .i64 x.f3],.agg #[.int .i64 y.f0,.int .i64 y.f1,.int .i64 y.f2,.int .i64 y.f3]] W fun e w'=>e = .returned (.int .i64 (cmpR x y))∧Below W.heap.size W w':=(cmpR_grows x y W).mono fun _ _ h=>⟨h.1,h.2.1⟩
end Go.Proofs.YtoemkemmiikhlaaGreat.PF4
