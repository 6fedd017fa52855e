import Derived.Test.YtoemkemmiikhlaaGreatPF4x0
import Derived.Test.YtoemkemmiikhlaaGreatPF4x1
import Derived.Test.YtoemkemmiikhlaaGreatPF4x2
import Derived.Test.YtoemkemmiikhlaaGreatPF4x3
import Derived.Test.YtoemkemmiikhlaaGreatPF4x5
set_option maxRecDepth 100000
namespace Go.Proofs.YtoemkemmiikhlaaGreat.PF4
open Go.RowKit Go.Proofs.YtoemkemmiikhlaaGreatW.PrintWords Go.Proofs.YtoemkemmiikhlaaGreatW.PrintLast Go.Proofs.YtoemkemmiikhlaaGreatW.PrintMore
attribute [local go_sem] max2_int min2_int max_two min_two max_three min_three max_four min_four
set_option linter.unusedVariables false
set_option linter.unusedSimpArgs false
def bsf (p : Nat → Bool) : Nat → Nat → Nat → Nat
 | 0,i,_=>i
 | d+1,i,j=>if i<j then (if p ((i+j) / 2) then bsf p d ((i+j) / 2+1) j else bsf p d i ((i+j) / 2)) else i
theorem bsf_fuel (p : Nat → Bool) : ∀ (d d' i j : Nat), j - i ≤ d → j - i ≤ d' → bsf p d i j = bsf p d' i j
 | 0,0,_,_,_,_=>rfl
 | 0,d'+1,i,j,h,_=>by rw [bsf,bsf,if_neg (by omega)]
 | d+1,0,i,j,_,h=>by rw [bsf,bsf,if_neg (by omega)]
 | d+1,d'+1,i,j,h,h'=>by
  rw [bsf,bsf]
  split
  ·split
   ·exact bsf_fuel p d d' _ _ (by omega) (by omega)
   ·exact bsf_fuel p d d' _ _ (by omega) (by omega)
  ·rfl
theorem bsf_le (p : Nat → Bool) : ∀ (d i j : Nat), i ≤ j → bsf p d i j ≤ j
 | 0,i,j,h=>h
 | d+1,i,j,h=>by
  rw [bsf]
  split
  ·split
   ·exact bsf_le p d _ _ (by omega)
   ·exact Nat.le_trans (bsf_le p d _ _ (by omega)) (by omega)
  ·exact h
def bsRC (cf:S50→S50→Int) (l:List S50) (t:S50):Nat:=bsf (fun h:Nat=>decide (cf (rd_T50 l (h:Int)) t<0)) l.length 0 l.length
set_option maxHeartbeats 8000000 in
theorem bsfuncC (g : Nat) (cf : S50 → S50 → Int) (eg : ∀ args w, (callFunc g args).run Tryz.prog w = .ok (.enter g args) w) (A0 : Option Addr) (c0 : Nat) (l0 : List S50) (t : S50) (w : World)
  (hp : ∀ (W:World) (x y:S50),Calls Tryz.prog g #[.agg #[.int .i64 x.f0,.int .i64 x.f1,.int .i64 x.f2,.int .i64 x.f3],.agg #[.int .i64 y.f0,.int .i64 y.f1,.int .i64 y.f2,.int .i64 y.f3]] W fun e w'=>e = .returned (.int .i64 (cf x y))∧Below W.heap.size W w')
  (hr0:Kd.C k50 w A0 l0.length l0) (hlen:l0.length≤1000000) :
  Calls Tryz.prog 58 #[.slice A0 l0.length c0,.agg #[.int .i64 t.f0,.int .i64 t.f1,.int .i64 t.f2,.int .i64 t.f3],.func (.func g) #[] #[]] w fun e w'=>e = .returned (.tuple #[.int .i64 (bsRC cf l0 t:Nat),.bool (decide (bsRC cf l0 t<l0.length) && (cf (rd_T50 l0 (bsRC cf l0 t:Nat)) t == 0))])∧Below w.heap.size w w':=by
 have hu:=Tryz.underlying50
 have HR0:=aK hr0
 have HP:=aK hp
 have HL:=aK hlen
 have HB:=aK (below_alloc (Below.refl w.heap.size w) (.cells #[.int .i64 t.f0,.int .i64 t.f1,.int .i64 t.f2,.int .i64 t.f3] 50))
 have HX:=aK (blk_new w (.cells #[.int .i64 t.f0,.int .i64 t.f1,.int .i64 t.f2,.int .i64 t.f3] 50))
 have HRS:Aside0 (bsRC cf l0 t=bsf (fun h:Nat=>decide (cf (rd_T50 l0 (h:Int)) t<0)) l0.length 0 l0.length):=⟨rfl⟩
 generalize bsRC cf l0 t=R at *
 obtain ⟨p,hpd⟩ : ∃ p:Nat→Bool,p=(fun h:Nat=>decide (cf (rd_T50 l0 (h:Int)) t<0)):=⟨_,rfl⟩
 rw [← hpd] at HRS
 have HPD:=aK hpd
 clear hr0 hp hlen hpd
 go_enter Tryz.func58,Tryz.ntmps58
 go_wp2
 go_loopg [9,10] l0.length (fun gg s9 s10 wr=>∃ i j:Nat,Aside0 (i≤j∧j≤l0.length∧j-i≤gg)∧s9 = .int .i64 i∧s10 = .int .i64 j∧Aside0 (R=bsf p l0.length i j)∧Aside0 (wr.heap[w.heap.size]?=some (.cells #[.int .i64 t.f0,.int .i64 t.f1,.int .i64 t.f2,.int .i64 t.f3] 50 (0,0)))∧Aside0 (Below w.heap.size w wr))
 case atStart=>exact ⟨0,l0.length,⟨by omega,by omega,by omega⟩,rfl,rfl,HRS,HX,HB⟩
 case round =>
  clear HB HX HRS
  obtain ⟨i,j,HIJ,rfl,rfl,HRS,HX,HB⟩:=hrel
  by_cases hlt:i<j
  ·have hlti:(i:Int)<(j:Int):=by omega
   obtain ⟨h,hh⟩ : ∃ h,h=(i+j) / 2:=⟨_,rfl⟩
   have HH:=aK hh
   have hmid:=bs_mid i j (by have:=HIJ.out;have:=HL.out;omega)
   rw [← hh] at hmid
   have HMID:=aK hmid
   have hlth:(h:Int)<(l0.length:Int):=by have:=HIJ.out;omega
   have hh0:(0:Int)≤(h:Int):=by omega
   obtain ⟨ad,rfl,hx0,hx1,hx2,hx3⟩:=at_T50 HR0.out (h:Int) (by omega) hlth
   simp only [Int.toNat_natCast] at hx0 hx1 hx2 hx3
   have HPH:Aside0 (p h=decide (cf (rd_T50 l0 (h:Int)) t<0)):=⟨by rw [HPD.out]⟩
   have HCALL:=aK (HP.out wr.drew (rd_T50 l0 (h:Int)) t)
   have hbs:bsf p l0.length i j=if p h then bsf p l0.length (h+1) j else bsf p l0.length i h:=by
    obtain ⟨n,hn⟩ : ∃ n,l0.length=n+1:=⟨l0.length-1,by have:=HIJ.out;omega⟩
    rw [hn,bsf,if_pos hlt,← hh,bsf_fuel p n (n+1) (h+1) j (by have:=HIJ.out;omega) (by have:=HIJ.out;omega),bsf_fuel p n (n+1) i h (by have:=HIJ.out;omega) (by have:=HIJ.out;omega)]
   have HBS:=aK hbs
   generalize rd_T50 l0 (h:Int)=x at *
   have P0:=aK (show wr.drew.cell? (ad.add (h*4))=some (.int .i64 x.f0) from (HB.out.cell (World.block_lt_of_cell? w _ hx0)).trans hx0)
   have P1:=aK (show wr.drew.cell? ⟨(ad.add (h*4)).block,(ad.add (h*4)).off+1,none⟩=some (.int .i64 x.f1) from (HB.out.cell (World.block_lt_of_cell? w _ hx1)).trans hx1)
   have P2:=aK (show wr.drew.cell? ⟨(ad.add (h*4)).block,(ad.add (h*4)).off+2,none⟩=some (.int .i64 x.f2) from (HB.out.cell (World.block_lt_of_cell? w _ hx2)).trans hx2)
   have P3:=aK (show wr.drew.cell? ⟨(ad.add (h*4)).block,(ad.add (h*4)).off+3,none⟩=some (.int .i64 x.f3) from (HB.out.cell (World.block_lt_of_cell? w _ hx3)).trans hx3)
   have P4:=aK (show wr.drew.cell? ⟨w.heap.size,0,none⟩=some (.int .i64 t.f0) from (blk_cell HX.out 0).trans rfl)
   have P5:=aK (show wr.drew.cell? ⟨w.heap.size,1,none⟩=some (.int .i64 t.f1) from (blk_cell HX.out 1).trans rfl)
   have P6:=aK (show wr.drew.cell? ⟨w.heap.size,2,none⟩=some (.int .i64 t.f2) from (blk_cell HX.out 2).trans rfl)
   have P7:=aK (show wr.drew.cell? ⟨w.heap.size,3,none⟩=some (.int .i64 t.f3) from (blk_cell HX.out 3).trans rfl)
   have HW:=aK (show wrap64 ((h:Int)+1)=((h+1:Nat):Int) by have:=HL.out;have:=HIJ.out;unfold wrap64;omega)
   clear hx0 hx1 hx2 hx3 hh hmid hbs hlt
   generalize cf x t=v at *
   go_upto_region 5 with (fail)
   rw [HMID.out]
   by_cases hv:v<0
   ·have hvd:decide (v<0)=true:=decide_eq_true hv
    have HR5:Aside0 (R=bsf p l0.length (h+1) j):=⟨by rw [HRS.out,HBS.out,HPH.out,hvd,if_pos rfl]⟩
    refine start_ (n:=8) (S:=fun w'=>w'.cell? (ad.add (h*4))=some (.int .i64 x.f0)∧w'.cell? ⟨(ad.add (h*4)).block,(ad.add (h*4)).off+1,none⟩=some (.int .i64 x.f1)∧w'.cell? ⟨(ad.add (h*4)).block,(ad.add (h*4)).off+2,none⟩=some (.int .i64 x.f2)∧w'.cell? ⟨(ad.add (h*4)).block,(ad.add (h*4)).off+3,none⟩=some (.int .i64 x.f3)∧w'.cell? ⟨w.heap.size,0,none⟩=some (.int .i64 t.f0)∧w'.cell? ⟨w.heap.size,1,none⟩=some (.int .i64 t.f1)∧w'.cell? ⟨w.heap.size,2,none⟩=some (.int .i64 t.f2)∧w'.cell? ⟨w.heap.size,3,none⟩=some (.int .i64 t.f3)) (ds:=[6]) #[false,false,false,false,false,false,false,false] (by kernel_rfl) rfl rfl ⟨P0.out,P1.out,P2.out,P3.out,P4.out,P5.out,P6.out,P7.out⟩ (fun hHeld=>?_)
    refine pu 0 (some 24) ?_ rfl rfl (by kernel_rfl) (fun _ _ _ h=>h) (.inl ⟨by rfl,?_⟩) ?_ ?_ ?_;rotate_left;intro w';go_simp;with_reducible rfl;rotate_left;simp only [nS];rfl
    refine pu 1 (some 25) ?_ rfl rfl (by kernel_rfl) (fun _ _ _ h=>h) (.inl ⟨by rfl,?_⟩) ?_ ?_ ?_;rotate_left;intro w';go_simp;with_reducible rfl;rotate_left;simp only [nS];rfl
    refine pu 2 (some 26) ?_ rfl rfl (by kernel_rfl) (fun _ _ _ h=>h) (.inl ⟨by rfl,?_⟩) ?_ ?_ ?_;rotate_left;intro w';go_simp;with_reducible rfl;rotate_left;simp only [nS];rfl
    refine pu 3 (some 27) ?_ rfl rfl (by kernel_rfl) (fun _ _ _ h=>h) (.inl ⟨by rfl,?_⟩) ?_ ?_ ?_;rotate_left;intro w';go_simp;with_reducible rfl;rotate_left;simp only [nS];rfl
    refine tk 4 (some 28) ?_ rfl rfl (by kernel_rfl) (fun _ _ _ h=>h) (.inl ⟨by rfl,?_⟩) hHeld ?_ ?_ ?_;rotate_left;rintro w' ⟨s0,s1,s2,s3,s4,s5,s6,s7⟩;go_simp;with_reducible rfl;rotate_left;simp only [nS];rfl
    refine tk 5 (some 29) ?_ rfl rfl (by kernel_rfl) (fun _ _ _ h=>h) (.inl ⟨by rfl,?_⟩) hHeld ?_ ?_ ?_;rotate_left;rintro w' ⟨s0,s1,s2,s3,s4,s5,s6,s7⟩;go_simp;with_reducible rfl;rotate_left;simp only [nS];rfl
    refine last_ (i:=6) (N:=some 30) #[true,true,true,true,true,true,true,false] rfl rfl (by kernel_rfl) (by decide) (fun K hK=>?_)
    refine goesv_ #[] #[(.agg #[.int .i64 x.f0,.int .i64 x.f1,.int .i64 x.f2,.int .i64 x.f3]),(.agg #[.int .i64 t.f0,.int .i64 t.f1,.int .i64 t.f2,.int .i64 t.f3])] eg (by rfl) rfl rfl (by rfl) (by simp only [List.map_toArray,List.map_cons,List.map_nil];rfl) ?_
    refine HCALL.out.mono ?_
    rintro e w3 ⟨rfl,hk3⟩
    refine ⟨_,rfl,?_⟩
    refine hK.out _ _ ?_
    clear hK K
    refine norm_ (a':=?_) ?_ ?_;rotate_left;show Act.put _ (some 30) _=_;simp only [nS];rfl
    refine pu 7 (some 31) ?_ rfl rfl (by kernel_rfl) (fun _ _ _ h=>h) (.inl ⟨by rfl,?_⟩) ?_ ?_ ?_;rotate_left;intro w';go_simp;with_reducible rfl;rotate_left;simp only [nS];rfl
    refine done_ (by kernel_rfl) ?_
    have HB3:=aK (below_step (below_drew1 HB.out) hk3)
    have HX3:=aK (blk_below (blk_drew HX.out) hk3)
    clear hk3
    go_wp2
    go_roundg (j-(h+1))
    case measure=>have:=HIJ.out;have:=HH.out;omega
    case rel=>exact ⟨h+1,j,⟨by have:=HIJ.out;have:=HH.out;omega⟩,congrArg (Value.int .i64) HW.out,rfl,HR5,HX3,HB3⟩
   ·have hvd:decide (v<0)=false:=decide_eq_false hv
    have HR5:Aside0 (R=bsf p l0.length i h):=⟨by rw [HRS.out,HBS.out,HPH.out,hvd,if_neg (by decide)]⟩
    refine start_ (n:=8) (S:=fun w'=>w'.cell? (ad.add (h*4))=some (.int .i64 x.f0)∧w'.cell? ⟨(ad.add (h*4)).block,(ad.add (h*4)).off+1,none⟩=some (.int .i64 x.f1)∧w'.cell? ⟨(ad.add (h*4)).block,(ad.add (h*4)).off+2,none⟩=some (.int .i64 x.f2)∧w'.cell? ⟨(ad.add (h*4)).block,(ad.add (h*4)).off+3,none⟩=some (.int .i64 x.f3)∧w'.cell? ⟨w.heap.size,0,none⟩=some (.int .i64 t.f0)∧w'.cell? ⟨w.heap.size,1,none⟩=some (.int .i64 t.f1)∧w'.cell? ⟨w.heap.size,2,none⟩=some (.int .i64 t.f2)∧w'.cell? ⟨w.heap.size,3,none⟩=some (.int .i64 t.f3)) (ds:=[6]) #[false,false,false,false,false,false,false,false] (by kernel_rfl) rfl rfl ⟨P0.out,P1.out,P2.out,P3.out,P4.out,P5.out,P6.out,P7.out⟩ (fun hHeld=>?_)
    refine pu 0 (some 24) ?_ rfl rfl (by kernel_rfl) (fun _ _ _ h=>h) (.inl ⟨by rfl,?_⟩) ?_ ?_ ?_;rotate_left;intro w';go_simp;with_reducible rfl;rotate_left;simp only [nS];rfl
    refine pu 1 (some 25) ?_ rfl rfl (by kernel_rfl) (fun _ _ _ h=>h) (.inl ⟨by rfl,?_⟩) ?_ ?_ ?_;rotate_left;intro w';go_simp;with_reducible rfl;rotate_left;simp only [nS];rfl
    refine pu 2 (some 26) ?_ rfl rfl (by kernel_rfl) (fun _ _ _ h=>h) (.inl ⟨by rfl,?_⟩) ?_ ?_ ?_;rotate_left;intro w';go_simp;with_reducible rfl;rotate_left;simp only [nS];rfl
    refine pu 3 (some 27) ?_ rfl rfl (by kernel_rfl) (fun _ _ _ h=>h) (.inl ⟨by rfl,?_⟩) ?_ ?_ ?_;rotate_left;intro w';go_simp;with_reducible rfl;rotate_left;simp only [nS];rfl
    refine tk 4 (some 28) ?_ rfl rfl (by kernel_rfl) (fun _ _ _ h=>h) (.inl ⟨by rfl,?_⟩) hHeld ?_ ?_ ?_;rotate_left;rintro w' ⟨s0,s1,s2,s3,s4,s5,s6,s7⟩;go_simp;with_reducible rfl;rotate_left;simp only [nS];rfl
    refine tk 5 (some 29) ?_ rfl rfl (by kernel_rfl) (fun _ _ _ h=>h) (.inl ⟨by rfl,?_⟩) hHeld ?_ ?_ ?_;rotate_left;rintro w' ⟨s0,s1,s2,s3,s4,s5,s6,s7⟩;go_simp;with_reducible rfl;rotate_left;simp only [nS];rfl
    refine last_ (i:=6) (N:=some 30) #[true,true,true,true,true,true,true,false] rfl rfl (by kernel_rfl) (by decide) (fun K hK=>?_)
    refine goesv_ #[] #[(.agg #[.int .i64 x.f0,.int .i64 x.f1,.int .i64 x.f2,.int .i64 x.f3]),(.agg #[.int .i64 t.f0,.int .i64 t.f1,.int .i64 t.f2,.int .i64 t.f3])] eg (by rfl) rfl rfl (by rfl) (by simp only [List.map_toArray,List.map_cons,List.map_nil];rfl) ?_
    refine HCALL.out.mono ?_
    rintro e w3 ⟨rfl,hk3⟩
    refine ⟨_,rfl,?_⟩
    refine hK.out _ _ ?_
    clear hK K
    refine norm_ (a':=?_) ?_ ?_;rotate_left;show Act.put _ (some 30) _=_;simp only [nS];rfl
    refine pu 7 (some 31) ?_ rfl rfl (by kernel_rfl) (fun _ _ _ h=>h) (.inl ⟨by rfl,?_⟩) ?_ ?_ ?_;rotate_left;intro w';go_simp;with_reducible rfl;rotate_left;simp only [nS];rfl
    refine done_ (by kernel_rfl) ?_
    have HB3:=aK (below_step (below_drew1 HB.out) hk3)
    have HX3:=aK (blk_below (blk_drew HX.out) hk3)
    clear hk3
    go_wp2
    go_roundg (h-i)
    case measure=>have:=HIJ.out;have:=HH.out;omega
    case rel=>exact ⟨i,h,⟨by have:=HIJ.out;have:=HH.out;omega⟩,rfl,rfl,HR5,HX3,HB3⟩
  ·have hlti : ¬ (i:Int)<(j:Int):=by omega
   have HRI:Aside0 (R=i):=⟨by
    rw [HRS.out]
    have:=HIJ.out
    generalize l0.length=n at *
    match n with
    | 0=>rfl
    | n+1=>rw [bsf,if_neg hlt]⟩
   clear HRS
   have hij:=HIJ.out
   by_cases hin:i<l0.length
   ·have hini:(i:Int)<(l0.length:Int):=by omega
    have hib:decide ((i:Int)<(l0.length:Int))=true:=decide_eq_true hini
    have hibn:decide (i<l0.length)=true:=decide_eq_true hin
    have hi0:(0:Int)≤(i:Int):=by omega
    obtain ⟨ad,rfl,hx0,hx1,hx2,hx3⟩:=at_T50 HR0.out (i:Int) (by omega) hini
    simp only [Int.toNat_natCast] at hx0 hx1 hx2 hx3
    have HCALL:=aK (HP.out wr.drew (rd_T50 l0 (i:Int)) t)
    have HFIN:Aside0 ((decide (R<l0.length) && (cf (rd_T50 l0 (R:Nat)) t == 0))=(cf (rd_T50 l0 (i:Int)) t == 0)):=⟨by rw [HRI.out,decide_eq_true hin,Bool.true_and]⟩
    have HFR:Aside0 ((R:Int)=(i:Int)):=⟨by rw [HRI.out]⟩
    generalize rd_T50 l0 (i:Int)=x at *
    have P0:=aK (show wr.drew.cell? (ad.add (i*4))=some (.int .i64 x.f0) from (HB.out.cell (World.block_lt_of_cell? w _ hx0)).trans hx0)
    have P1:=aK (show wr.drew.cell? ⟨(ad.add (i*4)).block,(ad.add (i*4)).off+1,none⟩=some (.int .i64 x.f1) from (HB.out.cell (World.block_lt_of_cell? w _ hx1)).trans hx1)
    have P2:=aK (show wr.drew.cell? ⟨(ad.add (i*4)).block,(ad.add (i*4)).off+2,none⟩=some (.int .i64 x.f2) from (HB.out.cell (World.block_lt_of_cell? w _ hx2)).trans hx2)
    have P3:=aK (show wr.drew.cell? ⟨(ad.add (i*4)).block,(ad.add (i*4)).off+3,none⟩=some (.int .i64 x.f3) from (HB.out.cell (World.block_lt_of_cell? w _ hx3)).trans hx3)
    have P4:=aK (show wr.drew.cell? ⟨w.heap.size,0,none⟩=some (.int .i64 t.f0) from (blk_cell HX.out 0).trans rfl)
    have P5:=aK (show wr.drew.cell? ⟨w.heap.size,1,none⟩=some (.int .i64 t.f1) from (blk_cell HX.out 1).trans rfl)
    have P6:=aK (show wr.drew.cell? ⟨w.heap.size,2,none⟩=some (.int .i64 t.f2) from (blk_cell HX.out 2).trans rfl)
    have P7:=aK (show wr.drew.cell? ⟨w.heap.size,3,none⟩=some (.int .i64 t.f3) from (blk_cell HX.out 3).trans rfl)
    clear hx0 hx1 hx2 hx3 hij hlt hin
    generalize cf x t=v at *
    go_wp2
    refine start_ (n:=16) (S:=fun w'=>w'.cell? (ad.add (i*4))=some (.int .i64 x.f0)∧w'.cell? ⟨(ad.add (i*4)).block,(ad.add (i*4)).off+1,none⟩=some (.int .i64 x.f1)∧w'.cell? ⟨(ad.add (i*4)).block,(ad.add (i*4)).off+2,none⟩=some (.int .i64 x.f2)∧w'.cell? ⟨(ad.add (i*4)).block,(ad.add (i*4)).off+3,none⟩=some (.int .i64 x.f3)∧w'.cell? ⟨w.heap.size,0,none⟩=some (.int .i64 t.f0)∧w'.cell? ⟨w.heap.size,1,none⟩=some (.int .i64 t.f1)∧w'.cell? ⟨w.heap.size,2,none⟩=some (.int .i64 t.f2)∧w'.cell? ⟨w.heap.size,3,none⟩=some (.int .i64 t.f3)) (ds:=[11]) #[false,false,false,false,false,false,false,false,false,false,false,false,false,false,false,false] (by kernel_rfl) rfl rfl ⟨P0.out,P1.out,P2.out,P3.out,P4.out,P5.out,P6.out,P7.out⟩ (fun hHeld=>?_)
    refine pu 0 (some 35) ?_ rfl rfl (by kernel_rfl) (fun _ _ _ h=>h) (.inl ⟨by rfl,?_⟩) ?_ ?_ ?_;rotate_left;intro w';go_simp;with_reducible rfl;rotate_left;simp only [nS];rfl
    refine pu 1 (some 36) ?_ rfl rfl (by kernel_rfl) (fun _ _ _ h=>h) (.inl ⟨by rfl,?_⟩) ?_ ?_ ?_;rotate_left;intro w';go_simp;with_reducible rfl;rotate_left;simp only [nS];rfl
    refine pu 2 (some 37) ?_ rfl rfl (by kernel_rfl) (fun _ _ _ h=>h) (.inl ⟨by rfl,?_⟩) ?_ ?_ ?_;rotate_left;intro w';go_simp;with_reducible rfl;rotate_left;simp only [nS];rfl
    refine pu 3 (some 38) ?_ rfl rfl (by kernel_rfl) (fun _ _ _ h=>h) (.inl ⟨by rfl,?_⟩) ?_ ?_ ?_;rotate_left;intro w';go_simp;with_reducible rfl;rotate_left;simp only [nS];rfl
    refine pu 4 (some 39) ?_ rfl rfl (by kernel_rfl) (fun _ _ _ h=>h) (.inl ⟨by rfl,?_⟩) ?_ ?_ ?_;rotate_left;intro w';go_simp;with_reducible rfl;rotate_left;simp only [nS];rfl
    refine pu 5 (some 40) ?_ rfl rfl (by kernel_rfl) (fun _ _ _ h=>h) (.inl ⟨by rfl,?_⟩) ?_ ?_ ?_;rotate_left;intro w';go_simp;with_reducible rfl;rotate_left;simp only [nS];rfl
    refine pu 6 (some 41) ?_ rfl rfl (by kernel_rfl) (fun _ _ _ h=>h) (.inl ⟨by rfl,?_⟩) ?_ ?_ ?_;rotate_left;intro w';go_simp;with_reducible rfl;rotate_left;simp only [nS];rfl
    refine pu 7 (some 42) ?_ rfl rfl (by kernel_rfl) (fun _ _ _ h=>h) (.inl ⟨by rfl,?_⟩) ?_ ?_ ?_;rotate_left;intro w';go_simp;with_reducible rfl;rotate_left;simp only [nS];rfl
    refine pu 8 (some 43) ?_ rfl rfl (by kernel_rfl) (fun _ _ _ h=>h) (.inl ⟨by rfl,?_⟩) ?_ ?_ ?_;rotate_left;intro w';go_simp;with_reducible rfl;rotate_left;simp only [nS];rfl
    refine tk 9 (some 44) ?_ rfl rfl (by kernel_rfl) (fun _ _ _ h=>h) (.inl ⟨by rfl,?_⟩) hHeld ?_ ?_ ?_;rotate_left;rintro w' ⟨s0,s1,s2,s3,s4,s5,s6,s7⟩;go_simp;with_reducible rfl;rotate_left;simp only [nS];rfl
    refine tk 10 (some 45) ?_ rfl rfl (by kernel_rfl) (fun _ _ _ h=>h) (.inl ⟨by rfl,?_⟩) hHeld ?_ ?_ ?_;rotate_left;rintro w' ⟨s0,s1,s2,s3,s4,s5,s6,s7⟩;go_simp;with_reducible rfl;rotate_left;simp only [nS];rfl
    refine last_ (i:=11) (N:=some 46) #[true,true,true,true,true,true,true,true,true,true,true,true,false,false,false,false] rfl rfl (by kernel_rfl) (by decide) (fun K hK=>?_)
    refine goesv_ #[] #[(.agg #[.int .i64 x.f0,.int .i64 x.f1,.int .i64 x.f2,.int .i64 x.f3]),(.agg #[.int .i64 t.f0,.int .i64 t.f1,.int .i64 t.f2,.int .i64 t.f3])] eg (by rfl) rfl rfl (by rfl) (by simp only [List.map_toArray,List.map_cons,List.map_nil];rfl) ?_
    refine HCALL.out.mono ?_
    rintro e w3 ⟨rfl,hk3⟩
    refine ⟨_,rfl,?_⟩
    refine hK.out _ _ ?_
    clear hK K
    refine norm_ (a':=?_) ?_ ?_;rotate_left;show Act.put _ (some 46) _=_;simp only [nS];rfl
    refine pu 12 (some 47) ?_ rfl rfl (by kernel_rfl) (fun _ _ _ h=>h) (.inl ⟨by rfl,?_⟩) ?_ ?_ ?_;rotate_left;intro w';go_simp;with_reducible rfl;rotate_left;simp only [nS];rfl
    refine pu 13 (some 48) ?_ rfl rfl (by kernel_rfl) (fun _ _ _ h=>h) (.inl ⟨by rfl,?_⟩) ?_ ?_ ?_;rotate_left;intro w';go_simp;with_reducible rfl;rotate_left;simp only [nS];rfl
    refine pu 14 (some 6) ?_ rfl rfl (by kernel_rfl) (fun _ _ _ h=>h) (.inl ⟨by rfl,?_⟩) ?_ ?_ ?_;rotate_left;intro w';go_simp;with_reducible rfl;rotate_left;simp only [nS];rfl
    refine pu 15 (some 7) ?_ rfl rfl (by kernel_rfl) (fun _ _ _ h=>h) (.inl ⟨by rfl,?_⟩) ?_ ?_ ?_;rotate_left;intro w';go_simp;with_reducible rfl;rotate_left;simp only [nS];rfl
    refine done_ (by kernel_rfl) ?_
    have HB3:=aK (below_step (below_drew1 HB.out) hk3)
    clear hk3
    go_wp2
    go_ret2
    exact ⟨by rw [HFIN.out,HFR.out];rfl,HB3.out⟩
   ·have hini : ¬ (i:Int)<(l0.length:Int):=by omega
    have hib:decide ((i:Int)<(l0.length:Int))=false:=decide_eq_false hini
    have hibn:decide (i<l0.length)=false:=decide_eq_false hin
    have HFIN:Aside0 ((decide (R<l0.length) && (cf (rd_T50 l0 (R:Nat)) t == 0))=false):=⟨by rw [HRI.out,decide_eq_false hin,Bool.false_and]⟩
    have HFR:Aside0 ((R:Int)=(i:Int)):=⟨by rw [HRI.out]⟩
    clear hij hlt hin
    go_wp2
    refine start_ (n:=16) (S:=fun w'=>True) (ds:=[]) #[false,false,false,false,false,false,false,false,false,false,false,false,false,false,false,false] (by kernel_rfl) rfl rfl trivial (fun hHeld=>?_)
    refine pu 0 (some 35) ?_ rfl rfl (by kernel_rfl) (fun _ _ _ h=>h) (.inl ⟨by rfl,?_⟩) ?_ ?_ ?_;rotate_left;intro w';go_simp;with_reducible rfl;rotate_left;simp only [nS];rfl
    refine pu 1 (some 36) ?_ rfl rfl (by kernel_rfl) (fun _ _ _ h=>h) (.inl ⟨by rfl,?_⟩) ?_ ?_ ?_;rotate_left;intro w';go_simp;with_reducible rfl;rotate_left;simp only [nS];rfl
    refine pu 2 (some 37) ?_ rfl rfl (by kernel_rfl) (fun _ _ _ h=>h) (.inl ⟨by rfl,?_⟩) ?_ ?_ ?_;rotate_left;intro w';go_simp;with_reducible rfl;rotate_left;simp only [nS];rfl
    refine pu 3 (some 38) ?_ rfl rfl (by kernel_rfl) (fun _ _ _ h=>h) (.inl ⟨by rfl,?_⟩) ?_ ?_ ?_;rotate_left;intro w';go_simp;with_reducible rfl;rotate_left;simp only [nS];rfl
    refine pu 4 (some 39) ?_ rfl rfl (by kernel_rfl) (fun _ _ _ h=>h) (.inl ⟨by rfl,?_⟩) ?_ ?_ ?_;rotate_left;intro w';go_simp;with_reducible rfl;rotate_left;simp only [nS];rfl
    refine pu 5 (some 40) undef rfl rfl (by kernel_rfl) (fun _ _ _ h=>h) (.inr ⟨by rfl,rfl⟩) ?_ ?_ ?_;rotate_left;simp only [nS];rfl
    refine pu 6 (some 41) undef rfl rfl (by kernel_rfl) (fun _ _ _ h=>h) (.inr ⟨by rfl,rfl⟩) ?_ ?_ ?_;rotate_left;simp only [nS];rfl
    refine pu 7 (some 42) undef rfl rfl (by kernel_rfl) (fun _ _ _ h=>h) (.inr ⟨by rfl,rfl⟩) ?_ ?_ ?_;rotate_left;simp only [nS];rfl
    refine pu 8 (some 43) undef rfl rfl (by kernel_rfl) (fun _ _ _ h=>h) (.inr ⟨by rfl,rfl⟩) ?_ ?_ ?_;rotate_left;simp only [nS];rfl
    refine pu 9 (some 44) undef rfl rfl (by kernel_rfl) (fun _ _ _ h=>h) (.inr ⟨by rfl,rfl⟩) ?_ ?_ ?_;rotate_left;simp only [nS];rfl
    refine pu 10 (some 45) undef rfl rfl (by kernel_rfl) (fun _ _ _ h=>h) (.inr ⟨by rfl,rfl⟩) ?_ ?_ ?_;rotate_left;simp only [nS];rfl
    refine pu 11 (some 46) undef rfl rfl (by kernel_rfl) (fun _ _ _ h=>h) (.inr ⟨by rfl,rfl⟩) ?_ ?_ ?_;rotate_left;simp only [nS];rfl
    refine pu 12 (some 47) undef rfl rfl (by kernel_rfl) (fun _ _ _ h=>h) (.inr ⟨by rfl,rfl⟩) ?_ ?_ ?_;rotate_left;simp only [nS];rfl
    refine pu 13 (some 48) ?_ rfl rfl (by kernel_rfl) (fun _ _ _ h=>h) (.inl ⟨by rfl,?_⟩) ?_ ?_ ?_;rotate_left;intro w';go_simp;with_reducible rfl;rotate_left;simp only [nS];rfl
    refine pu 14 (some 6) ?_ rfl rfl (by kernel_rfl) (fun _ _ _ h=>h) (.inl ⟨by rfl,?_⟩) ?_ ?_ ?_;rotate_left;intro w';go_simp;with_reducible rfl;rotate_left;simp only [nS];rfl
    refine pu 15 (some 7) ?_ rfl rfl (by kernel_rfl) (fun _ _ _ h=>h) (.inl ⟨by rfl,?_⟩) ?_ ?_ ?_;rotate_left;intro w';go_simp;with_reducible rfl;rotate_left;simp only [nS];rfl
    refine done_ (by kernel_rfl) ?_
    have HB3:=aK (below_drew1 HB.out)
    go_wp2
    go_ret2
    exact ⟨by rw [HFIN.out,HFR.out];rfl,HB3.out⟩
def findM (sz:Int) (cs:List S50) (rs:List S45) (code:Int):S50×Int :=
 if validM sz cs rs then (if decide (bsRC cmpC cs ⟨code,0,0,0⟩<cs.length) && (cmpC (rd_T50 cs (bsRC cmpC cs ⟨code,0,0,0⟩:Nat)) ⟨code,0,0,0⟩ == 0) then (rd_T50 cs (bsRC cmpC cs ⟨code,0,0,0⟩:Nat),0) else (⟨0,0,0,0⟩,4)) else (⟨0,0,0,0⟩,2)
set_option maxHeartbeats 8000000 in
theorem find_calls (sz : Int) (A1 : Option Addr) (c1 : Nat) (cs : List S50) (A2 : Option Addr) (c2 : Nat) (rs : List S45) (code : Int) (w : World)
  (hr1:Kd.C k50 w A1 cs.length cs) (hr2:Kd.C k45 w A2 rs.length rs) (hl1:cs.length≤1000000) (hl2:rs.length≤1000000) :
  Calls Tryz.prog 20 #[.agg #[.int .i64 sz,.slice A1 cs.length c1,.slice A2 rs.length c2],.int .i64 code] w fun e w'=>e = .returned (.tuple #[.agg #[.int .i64 (findM sz cs rs code).1.f0,.int .i64 (findM sz cs rs code).1.f1,.int .i64 (findM sz cs rs code).1.f2,.int .i64 (findM sz cs rs code).1.f3],.int .i64 (findM sz cs rs code).2])∧Below w.heap.size w w':=by
 have hu:=Tryz.underlying25
 have hu50:=Tryz.underlying50
 have HR1:=aK hr1
 have HR2:=aK hr2
 have HL1:=aK hl1
 have HL2:=aK hl2
 have HM:=aK (blk_alloc (blk_new w (.cells #[.int .i64 sz,.slice A1 cs.length c1,.slice A2 rs.length c2] 25)) (.cells #[.int .i64 0,.int .i64 0,.int .i64 0,.int .i64 0] 50))
 have hq:=blk_new (w.alloc (.cells #[.int .i64 sz,.slice A1 cs.length c1,.slice A2 rs.length c2] 25)) (.cells #[.int .i64 0,.int .i64 0,.int .i64 0,.int .i64 0] 50)
 simp only [World.size_alloc] at hq
 obtain ⟨b4,hb4⟩ : ∃ b4,b4=w.heap.size+1:=⟨_,rfl⟩
 rw [← hb4] at hq
 have HQ:=aK hq
 have HB:=aK (below_alloc (below_alloc (Below.refl w.heap.size w) (.cells #[.int .i64 sz,.slice A1 cs.length c1,.slice A2 rs.length c2] 25)) (.cells #[.int .i64 0,.int .i64 0,.int .i64 0,.int .i64 0] 50))
 have HLE:Aside0 (w.heap.size≤b4):=⟨by omega⟩
 have HBE:=aK hb4
 obtain ⟨r,hr⟩ : ∃ r,r=findM sz cs rs code:=⟨_,rfl⟩
 rw [← hr]
 have HF:=aK hr
 clear hr1 hr2 hl1 hl2 hq hb4 hr
 go_enter Tryz.func20,Tryz.ntmps20
 go_upto_region 1 with (fail)
 rw [← HBE.out]
 generalize (w.alloc (.cells #[.int .i64 sz,.slice A1 cs.length c1,.slice A2 rs.length c2] 25)).alloc (.cells #[.int .i64 0,.int .i64 0,.int .i64 0,.int .i64 0] 50)=V at *
 clear HBE
 have p0:=(blk_cell HM.out 0).trans rfl
 have p1:=(blk_cell HM.out 1).trans rfl
 have p2:=(blk_cell HM.out 2).trans rfl
 have hc:=valid_calls sz A1 c1 cs A2 c2 rs V (Kd.C_below HR1.out HB.out) (Kd.C_below HR2.out HB.out) (by have:=HL1.out;omega) (by have:=HL2.out;omega)
 cases hv:validM sz cs rs with
 | false =>
  have HO:Aside0 (r=(⟨0,0,0,0⟩,2)):=⟨by rw [HF.out,findM,hv];rfl⟩
  rw [hv] at hc
  clear hv HF
  go_wp2_with fail
  refine hc.mono ?_
  clear hc p0 p1 p2
  rintro e W1 ⟨rfl,hb1⟩
  have HB1:=aK (below_step HB.out hb1)
  have HQ1:=aK (blk_below HQ.out hb1)
  clear hb1 HB HQ HM
  have q0:=blk_frozen HQ1.out 0
  have q1:=blk_frozen HQ1.out 1
  have q2:=blk_frozen HQ1.out 2
  have q3:=blk_frozen HQ1.out 3
  have q4:=(blk_cell HQ1.out 0).trans rfl
  have q5:=(blk_cell HQ1.out 1).trans rfl
  have q6:=(blk_cell HQ1.out 2).trans rfl
  have q7:=(blk_cell HQ1.out 3).trans rfl
  have X4:=aK (blk_put (blk_put (blk_put (blk_put HQ1.out 0 (.int .i64 0) rfl) 1 (.int .i64 0) rfl) 2 (.int .i64 0) rfl) 3 (.int .i64 0) rfl)
  go_wp2
  refine bodyPost_ret (results_ct rfl _ _ b4 50 #[.int .i64 0,.int .i64 0,.int .i64 0,.int .i64 0] (0,0) _ rfl X4.out Tryz.underlying50 rfl (by kernel_rfl)) rfl ?_
  rw [HO.out]
  exact ⟨rfl,below_set (below_set (below_set (below_set HB1.out HLE.out) HLE.out) HLE.out) HLE.out⟩
 | true =>
  have HF2:Aside0 (r=if decide (bsRC cmpC cs ⟨code,0,0,0⟩<cs.length) && (cmpC (rd_T50 cs (bsRC cmpC cs ⟨code,0,0,0⟩:Nat)) ⟨code,0,0,0⟩ == 0) then (rd_T50 cs (bsRC cmpC cs ⟨code,0,0,0⟩:Nat),0) else (⟨0,0,0,0⟩,4)):=⟨by rw [HF.out,findM,hv,if_pos rfl]⟩
  rw [hv] at hc
  clear hv HF
  go_wp2_with fail
  refine hc.mono ?_
  clear hc p0 p1 p2
  rintro e W1 ⟨rfl,hb1⟩
  have HB1:=aK (below_step HB.out hb1)
  have HQ1:=aK (blk_below HQ.out hb1)
  have HM1:=aK (blk_below HM.out hb1)
  clear hb1 HB HQ HM
  have p1:=(blk_cell HM1.out 1).trans rfl
  have hc:=bsfuncC 36 cmpC (enters_own Tryz.func36 (by kernel_rfl) rfl) A1 c1 cs ⟨code,0,0,0⟩ W1 (fun W x y=>cmpC_calls W x y) (Kd.C_below HR1.out HB1.out) HL1.out
  generalize bsRC cmpC cs ⟨code,0,0,0⟩=i at *
  cases hok:(decide (i<cs.length) && (cmpC (rd_T50 cs (i:Nat)) ⟨code,0,0,0⟩ == 0)) with
  | false =>
   rw [hok] at hc HF2
   have HO:Aside0 (r=(⟨0,0,0,0⟩,4)):=⟨by rw [HF2.out,if_neg (by decide)]⟩
   clear hok HF2
   go_wp2_with fail
   refine hc.mono ?_
   clear hc p1
   rintro e W2 ⟨rfl,hb2⟩
   have HB2:=aK (below_step HB1.out hb2)
   have HQ2:=aK (blk_below HQ1.out hb2)
   clear hb2 HB1 HQ1 HM1
   have q0:=blk_frozen HQ2.out 0
   have q1:=blk_frozen HQ2.out 1
   have q2:=blk_frozen HQ2.out 2
   have q3:=blk_frozen HQ2.out 3
   have q4:=(blk_cell HQ2.out 0).trans rfl
   have q5:=(blk_cell HQ2.out 1).trans rfl
   have q6:=(blk_cell HQ2.out 2).trans rfl
   have q7:=(blk_cell HQ2.out 3).trans rfl
   have X4:=aK (blk_put (blk_put (blk_put (blk_put HQ2.out 0 (.int .i64 0) rfl) 1 (.int .i64 0) rfl) 2 (.int .i64 0) rfl) 3 (.int .i64 0) rfl)
   go_wp2
   refine bodyPost_ret (results_ct rfl _ _ b4 50 #[.int .i64 0,.int .i64 0,.int .i64 0,.int .i64 0] (0,0) _ rfl X4.out Tryz.underlying50 rfl (by kernel_rfl)) rfl ?_
   rw [HO.out]
   exact ⟨rfl,below_set (below_set (below_set (below_set HB2.out HLE.out) HLE.out) HLE.out) HLE.out⟩
  | true =>
   rw [hok] at hc HF2
   have HO:Aside0 (r=(rd_T50 cs (i:Int),0)):=⟨by rw [HF2.out,if_pos rfl]⟩
   have hin:(i:Int)<(cs.length:Int):=by
    simp only [Bool.and_eq_true,decide_eq_true_eq] at hok
    omega
   have hi0:(0:Int)≤(i:Int):=by omega
   clear hok HF2
   go_wp2_with fail
   refine hc.mono ?_
   clear hc p1
   rintro e W2 ⟨rfl,hb2⟩
   have HB2:=aK (below_step HB1.out hb2)
   have HQ2:=aK (blk_below HQ1.out hb2)
   have HM2:=aK (blk_below HM1.out hb2)
   clear hb2 HB1 HQ1 HM1
   obtain ⟨ad,rfl,hx0,hx1,hx2,hx3⟩:=at_T50 HR1.out (i:Int) hi0 hin
   simp only [Int.toNat_natCast] at hx0 hx1 hx2 hx3
   replace hx0:=(HB2.out.cell (World.block_lt_of_cell? w _ hx0)).trans hx0
   replace hx1:=(HB2.out.cell (World.block_lt_of_cell? w _ hx1)).trans hx1
   replace hx2:=(HB2.out.cell (World.block_lt_of_cell? w _ hx2)).trans hx2
   replace hx3:=(HB2.out.cell (World.block_lt_of_cell? w _ hx3)).trans hx3
   generalize rd_T50 cs (i:Int)=x at *
   have p1:=(blk_cell HM2.out 1).trans rfl
   have q0:=blk_frozen HQ2.out 0
   have q1:=blk_frozen HQ2.out 1
   have q2:=blk_frozen HQ2.out 2
   have q3:=blk_frozen HQ2.out 3
   have q4:=(blk_cell HQ2.out 0).trans rfl
   have q5:=(blk_cell HQ2.out 1).trans rfl
   have q6:=(blk_cell HQ2.out 2).trans rfl
   have q7:=(blk_cell HQ2.out 3).trans rfl
   have X4:=aK (blk_put (blk_put (blk_put (blk_put HQ2.out 0 (.int .i64 x.f0) rfl) 1 (.int .i64 x.f1) rfl) 2 (.int .i64 x.f2) rfl) 3 (.int .i64 x.f3) rfl)
   go_wp2
   refine bodyPost_ret (results_ct rfl _ _ b4 50 #[.int .i64 x.f0,.int .i64 x.f1,.int .i64 x.f2,.int .i64 x.f3] (0,0) _ rfl X4.out Tryz.underlying50 rfl (by kernel_rfl)) rfl ?_
   rw [HO.out]
   exact ⟨rfl,below_set (below_set (below_set (below_set HB2.out HLE.out) HLE.out) HLE.out) HLE.out⟩
end Go.Proofs.YtoemkemmiikhlaaGreat.PF4
