import Derived.Test.YtoemkemmiikhlaaGreatPF4x0
import Derived.Test.YtoemkemmiikhlaaGreatPF4x1
import Derived.Test.YtoemkemmiikhlaaGreatPF4x2
set_option maxRecDepth 100000
namespace Go.Proofs.YtoemkemmiikhlaaGreat.PF4
open Go.RowKit Go.Proofs.YtoemkemmiikhlaaGreatW.PrintWords Go.Proofs.YtoemkemmiikhlaaGreatW.PrintLast Go.Proofs.YtoemkemmiikhlaaGreatW.PrintMore
attribute [local go_sem] max2_int min2_int max_two min_two max_three min_three max_four min_four
set_option linter.unusedVariables false
set_option linter.unusedSimpArgs false
set_option maxHeartbeats 4000000 in
theorem rising_prsR (g : Nat) (cf : S45 → S45 → Int) (eg : ∀ args w, (callFunc g args).run Tryz.prog w = .ok (.enter g args) w) (A0 : Option Addr) (c0 : Nat) (l0 : List S45) (w : World)
  (hp : ∀ (W:World) (x y:S45),Calls Tryz.prog g #[.agg #[.int .i64 x.f0,.int .i64 x.f1,.int .i64 x.f2,.int .i64 x.f3],.agg #[.int .i64 y.f0,.int .i64 y.f1,.int .i64 y.f2,.int .i64 y.f3]] W fun e w'=>e = .returned (.int .i64 (cf x y))∧Below W.heap.size W w')
  (hr0:Kd.C k45 w A0 l0.length l0) (hlen:l0.length≤1000000000000) :
  Calls Tryz.prog 87 #[.slice A0 l0.length c0,.func (.func g) #[] #[]] w fun e w'=>e = .returned (.bool (chainB (fun x y=>decide (cf x y<0)) l0))∧Below w.heap.size w w':=by
 have hu:=Tryz.underlying45
 have HR0:=aK hr0
 have HP:=aK hp
 have HL:=aK hlen
 clear hr0 hp hlen
 have HB:=aK (Below.refl w.heap.size w)
 generalize hT:(fun (x y:S45)=>decide (cf x y<0))=ok
 have HT:=aK hT
 clear hT
 go_enter Tryz.func87,Tryz.ntmps87
 go_wp2
 go_loopg [5] l0.length (fun gg s5 wr=>∃ j kk:Nat,Aside0 (kk=j+1)∧l0.length-kk≤gg∧s5 = .int .i64 kk∧Aside0 (kk≤l0.length+1)∧Aside0 (chainB ok l0=chainB ok (l0.drop j))∧Aside0 (Below w.heap.size w wr))
 case atStart=>exact ⟨0,1,⟨rfl⟩,by omega,rfl,⟨by omega⟩,⟨rfl⟩,HB⟩
 case round =>
  obtain ⟨j,kk,HK,hg,rfl,HKL,HI,HB⟩:=hrel
  by_cases hlt:kk<l0.length
  ·have hlti:(kk:Int)<(l0.length:Int):=by omega
   have hk0:0≤(kk:Int):=by omega
   have hltj:(j:Int)<(l0.length:Int):=by have:=HK.out;omega
   have hj0:0≤(j:Int):=by omega
   have hwj:wrap64 ((kk:Int)-1)=(j:Int):=by have:=HK.out;have:=HL.out;unfold wrap64;omega
   obtain ⟨ad,rfl,hx0,hx1,hx2,hx3⟩:=at_T45 HR0.out (j:Int) (by omega) hltj
   obtain ⟨ad',e',hy0,hy1,hy2,hy3⟩:=at_T45 HR0.out (kk:Int) (by omega) hlti
   obtain rfl:ad=ad':=by injection e'
   simp only [Int.toNat_natCast] at hx0 hx1 hx2 hx3 hy0 hy1 hy2 hy3
   have hI:=HI.out
   rw [rd_dropR l0 j (by omega),rd_dropR l0 (j+1) (by have:=HK.out;omega)] at hI
   have hI2:chainB ok l0=(ok (rd_T45 l0 (j:Int)) (rd_T45 l0 (kk:Int)) && chainB ok (l0.drop (j+1))):=by
    have hk:=HK.out
    subst hk
    rw [hI]
    show (_ && chainB ok (_::_))=_
    rw [← rd_dropR l0 (j+1) hlt]
   have HI2:=aK hI2
   clear hI hI2 HI
   generalize rd_T45 l0 (kk:Int)=y at *
   generalize rd_T45 l0 (j:Int)=x at *
   have P0:=aK (show wr.drew.cell? (ad.add (j*4))=some (.int .i64 x.f0) from (HB.out.cell (World.block_lt_of_cell? w _ hx0)).trans hx0)
   have P1:=aK (show wr.drew.cell? ⟨(ad.add (j*4)).block,(ad.add (j*4)).off+1,none⟩=some (.int .i64 x.f1) from (HB.out.cell (World.block_lt_of_cell? w _ hx1)).trans hx1)
   have P2:=aK (show wr.drew.cell? ⟨(ad.add (j*4)).block,(ad.add (j*4)).off+2,none⟩=some (.int .i64 x.f2) from (HB.out.cell (World.block_lt_of_cell? w _ hx2)).trans hx2)
   have P3:=aK (show wr.drew.cell? ⟨(ad.add (j*4)).block,(ad.add (j*4)).off+3,none⟩=some (.int .i64 x.f3) from (HB.out.cell (World.block_lt_of_cell? w _ hx3)).trans hx3)
   have P4:=aK (show wr.drew.cell? (ad.add (kk*4))=some (.int .i64 y.f0) from (HB.out.cell (World.block_lt_of_cell? w _ hy0)).trans hy0)
   have P5:=aK (show wr.drew.cell? ⟨(ad.add (kk*4)).block,(ad.add (kk*4)).off+1,none⟩=some (.int .i64 y.f1) from (HB.out.cell (World.block_lt_of_cell? w _ hy1)).trans hy1)
   have P6:=aK (show wr.drew.cell? ⟨(ad.add (kk*4)).block,(ad.add (kk*4)).off+2,none⟩=some (.int .i64 y.f2) from (HB.out.cell (World.block_lt_of_cell? w _ hy2)).trans hy2)
   have P7:=aK (show wr.drew.cell? ⟨(ad.add (kk*4)).block,(ad.add (kk*4)).off+3,none⟩=some (.int .i64 y.f3) from (HB.out.cell (World.block_lt_of_cell? w _ hy3)).trans hy3)
   have hcall:=HP.out wr.drew x y
   have hokxy:ok x y=(decide (cf x y<0)):=by rw [← HT.out]
   generalize hv:cf x y=v at *
   have HCALL:=aK hcall
   have HSTEP:=aK (show wrap64 ((kk:Int)+1)=((kk+1:Nat):Int) by have:=HL.out;unfold wrap64;omega)
   clear hx0 hx1 hx2 hx3 hy0 hy1 hy2 hy3 hcall hv e'
   cases hob:ok x y with
   | true =>
    have HOK:Aside0 ((decide (v<0))=true):=⟨by rw [← hokxy];exact hob⟩
    have HI3:Aside0 (chainB ok l0=chainB ok (l0.drop (j+1))):=⟨by rw [HI2.out,hob];rfl⟩
    clear hokxy HI2 hob
    have HV2:Aside0 (v<0):=⟨by have:=HOK.out;simpa using this⟩
    have hvb:decide (v≥0)=false:=decide_eq_false (by have:=HV2.out;omega)
    have hvc:decide (0≤v)=false:=hvb
    go_wp2
    refine start_ (n:=12) (S:=fun w'=>w'.cell? (ad.add (j*4))=some (.int .i64 x.f0)∧w'.cell? ⟨(ad.add (j*4)).block,(ad.add (j*4)).off+1,none⟩=some (.int .i64 x.f1)∧w'.cell? ⟨(ad.add (j*4)).block,(ad.add (j*4)).off+2,none⟩=some (.int .i64 x.f2)∧w'.cell? ⟨(ad.add (j*4)).block,(ad.add (j*4)).off+3,none⟩=some (.int .i64 x.f3)∧w'.cell? (ad.add (kk*4))=some (.int .i64 y.f0)∧w'.cell? ⟨(ad.add (kk*4)).block,(ad.add (kk*4)).off+1,none⟩=some (.int .i64 y.f1)∧w'.cell? ⟨(ad.add (kk*4)).block,(ad.add (kk*4)).off+2,none⟩=some (.int .i64 y.f2)∧w'.cell? ⟨(ad.add (kk*4)).block,(ad.add (kk*4)).off+3,none⟩=some (.int .i64 y.f3)) (ds:=[10]) #[false,false,false,false,false,false,false,false,false,false,false,false] (by kernel_rfl) rfl rfl ⟨P0.out,P1.out,P2.out,P3.out,P4.out,P5.out,P6.out,P7.out⟩ (fun hHeld=>?_)
    refine pu 0 (some 12) ?_ rfl rfl (by kernel_rfl) (fun _ _ _ h=>h) (.inl ⟨by rfl,?_⟩) ?_ ?_ ?_;rotate_left;intro w';go_simp;with_reducible rfl;rotate_left;simp only [nS];rfl
    refine pu 1 (some 13) ?_ rfl rfl (by kernel_rfl) (fun _ _ _ h=>h) (.inl ⟨by rfl,?_⟩) ?_ ?_ ?_;rotate_left;intro w';go_simp;with_reducible rfl;rotate_left;simp only [nS];rfl
    refine pu 2 (some 14) ?_ rfl rfl (by kernel_rfl) (fun _ _ _ h=>h) (.inl ⟨by rfl,?_⟩) ?_ ?_ ?_;rotate_left;intro w';go_simp;with_reducible rfl;rotate_left;simp only [nS];rfl
    refine pu 3 (some 15) ?_ rfl rfl (by kernel_rfl) (fun _ _ _ h=>h) (.inl ⟨by rfl,?_⟩) ?_ ?_ ?_;rotate_left;intro w';go_simp;with_reducible rfl;rotate_left;simp only [nS];rfl
    refine pu 4 (some 16) ?_ rfl rfl (by kernel_rfl) (fun _ _ _ h=>h) (.inl ⟨by rfl,?_⟩) ?_ ?_ ?_;rotate_left;intro w';go_simp;with_reducible rfl;rotate_left;simp only [nS];rfl
    refine pu 6 (some 18) ?_ rfl rfl (by kernel_rfl) (fun _ _ _ h=>h) (.inl ⟨by rfl,?_⟩) ?_ ?_ ?_;rotate_left;intro w';go_simp;with_reducible rfl;rotate_left;simp only [nS];rfl
    refine pu 7 (some 19) ?_ rfl rfl (by kernel_rfl) (fun _ _ _ h=>h) (.inl ⟨by rfl,?_⟩) ?_ ?_ ?_;rotate_left;intro w';go_simp;with_reducible rfl;rotate_left;simp only [nS];rfl
    refine pu 8 (some 20) ?_ rfl rfl (by kernel_rfl) (fun _ _ _ h=>h) (.inl ⟨by rfl,?_⟩) ?_ ?_ ?_;rotate_left;intro w';go_simp;with_reducible rfl;rotate_left;simp only [nS];rfl
    refine tk 5 (some 17) ?_ rfl rfl (by kernel_rfl) (fun _ _ _ h=>h) (.inl ⟨by rfl,?_⟩) hHeld ?_ ?_ ?_;rotate_left;rintro w' ⟨s0,s1,s2,s3,s4,s5,s6,s7⟩;go_simp;with_reducible rfl;rotate_left;simp only [nS];rfl
    refine tk 9 (some 21) ?_ rfl rfl (by kernel_rfl) (fun _ _ _ h=>h) (.inl ⟨by rfl,?_⟩) hHeld ?_ ?_ ?_;rotate_left;rintro w' ⟨s0,s1,s2,s3,s4,s5,s6,s7⟩;go_simp;with_reducible rfl;rotate_left;simp only [nS];rfl
    refine last_ (i:=10) (N:=some 22) #[true,true,true,true,true,true,true,true,true,true,true,false] rfl rfl (by kernel_rfl) (by decide) (fun K hK=>?_)
    refine goesv_ #[] #[.agg #[.int .i64 x.f0,.int .i64 x.f1,.int .i64 x.f2,.int .i64 x.f3],.agg #[.int .i64 y.f0,.int .i64 y.f1,.int .i64 y.f2,.int .i64 y.f3]] eg (by rfl) rfl rfl (by rfl) (by simp only [List.map_toArray,List.map_cons,List.map_nil];rfl) ?_
    refine HCALL.out.mono ?_
    rintro e w3 ⟨rfl,hk3⟩
    refine ⟨_,rfl,?_⟩
    refine hK.out _ _ ?_
    clear hK K
    refine norm_ (a':=?_) ?_ ?_;rotate_left;show Act.put _ (some 22) _=_;simp only [nS];rfl
    refine pu 11 (some 23) ?_ rfl rfl (by kernel_rfl) (fun _ _ _ h=>h) (.inl ⟨by rfl,?_⟩) ?_ ?_ ?_;rotate_left;intro w';go_simp;with_reducible rfl;rotate_left;simp only [nS];rfl
    refine done_ (by kernel_rfl) ?_
    have HB3:=aK (below_step (below_drew1 HB.out) hk3)
    clear hk3
    go_wp2
    go_roundg (l0.length-(kk+1))
    case measure=>omega
    case rel=>exact ⟨j+1,kk+1,⟨by rw [HK.out]⟩,by omega,congrArg (Value.int .i64) HSTEP.out,⟨by omega⟩,HI3,HB3⟩
   | false =>
    have HOK:Aside0 ((decide (v<0))=false):=⟨by rw [← hokxy];exact hob⟩
    have HI3:Aside0 (chainB ok l0=false):=⟨by rw [HI2.out,hob];rfl⟩
    clear hokxy HI2 hob
    have HV2:Aside0 (0≤v):=⟨by have:=HOK.out;simp only [decide_eq_false_iff_not] at this;omega⟩
    have hvb:decide (v≥0)=true:=decide_eq_true (by have:=HV2.out;omega)
    have hvc:decide (0≤v)=true:=hvb
    go_wp2
    refine start_ (n:=12) (S:=fun w'=>w'.cell? (ad.add (j*4))=some (.int .i64 x.f0)∧w'.cell? ⟨(ad.add (j*4)).block,(ad.add (j*4)).off+1,none⟩=some (.int .i64 x.f1)∧w'.cell? ⟨(ad.add (j*4)).block,(ad.add (j*4)).off+2,none⟩=some (.int .i64 x.f2)∧w'.cell? ⟨(ad.add (j*4)).block,(ad.add (j*4)).off+3,none⟩=some (.int .i64 x.f3)∧w'.cell? (ad.add (kk*4))=some (.int .i64 y.f0)∧w'.cell? ⟨(ad.add (kk*4)).block,(ad.add (kk*4)).off+1,none⟩=some (.int .i64 y.f1)∧w'.cell? ⟨(ad.add (kk*4)).block,(ad.add (kk*4)).off+2,none⟩=some (.int .i64 y.f2)∧w'.cell? ⟨(ad.add (kk*4)).block,(ad.add (kk*4)).off+3,none⟩=some (.int .i64 y.f3)) (ds:=[10]) #[false,false,false,false,false,false,false,false,false,false,false,false] (by kernel_rfl) rfl rfl ⟨P0.out,P1.out,P2.out,P3.out,P4.out,P5.out,P6.out,P7.out⟩ (fun hHeld=>?_)
    refine pu 0 (some 12) ?_ rfl rfl (by kernel_rfl) (fun _ _ _ h=>h) (.inl ⟨by rfl,?_⟩) ?_ ?_ ?_;rotate_left;intro w';go_simp;with_reducible rfl;rotate_left;simp only [nS];rfl
    refine pu 1 (some 13) ?_ rfl rfl (by kernel_rfl) (fun _ _ _ h=>h) (.inl ⟨by rfl,?_⟩) ?_ ?_ ?_;rotate_left;intro w';go_simp;with_reducible rfl;rotate_left;simp only [nS];rfl
    refine pu 2 (some 14) ?_ rfl rfl (by kernel_rfl) (fun _ _ _ h=>h) (.inl ⟨by rfl,?_⟩) ?_ ?_ ?_;rotate_left;intro w';go_simp;with_reducible rfl;rotate_left;simp only [nS];rfl
    refine pu 3 (some 15) ?_ rfl rfl (by kernel_rfl) (fun _ _ _ h=>h) (.inl ⟨by rfl,?_⟩) ?_ ?_ ?_;rotate_left;intro w';go_simp;with_reducible rfl;rotate_left;simp only [nS];rfl
    refine pu 4 (some 16) ?_ rfl rfl (by kernel_rfl) (fun _ _ _ h=>h) (.inl ⟨by rfl,?_⟩) ?_ ?_ ?_;rotate_left;intro w';go_simp;with_reducible rfl;rotate_left;simp only [nS];rfl
    refine pu 6 (some 18) ?_ rfl rfl (by kernel_rfl) (fun _ _ _ h=>h) (.inl ⟨by rfl,?_⟩) ?_ ?_ ?_;rotate_left;intro w';go_simp;with_reducible rfl;rotate_left;simp only [nS];rfl
    refine pu 7 (some 19) ?_ rfl rfl (by kernel_rfl) (fun _ _ _ h=>h) (.inl ⟨by rfl,?_⟩) ?_ ?_ ?_;rotate_left;intro w';go_simp;with_reducible rfl;rotate_left;simp only [nS];rfl
    refine pu 8 (some 20) ?_ rfl rfl (by kernel_rfl) (fun _ _ _ h=>h) (.inl ⟨by rfl,?_⟩) ?_ ?_ ?_;rotate_left;intro w';go_simp;with_reducible rfl;rotate_left;simp only [nS];rfl
    refine tk 5 (some 17) ?_ rfl rfl (by kernel_rfl) (fun _ _ _ h=>h) (.inl ⟨by rfl,?_⟩) hHeld ?_ ?_ ?_;rotate_left;rintro w' ⟨s0,s1,s2,s3,s4,s5,s6,s7⟩;go_simp;with_reducible rfl;rotate_left;simp only [nS];rfl
    refine tk 9 (some 21) ?_ rfl rfl (by kernel_rfl) (fun _ _ _ h=>h) (.inl ⟨by rfl,?_⟩) hHeld ?_ ?_ ?_;rotate_left;rintro w' ⟨s0,s1,s2,s3,s4,s5,s6,s7⟩;go_simp;with_reducible rfl;rotate_left;simp only [nS];rfl
    refine last_ (i:=10) (N:=some 22) #[true,true,true,true,true,true,true,true,true,true,true,false] rfl rfl (by kernel_rfl) (by decide) (fun K hK=>?_)
    refine goesv_ #[] #[.agg #[.int .i64 x.f0,.int .i64 x.f1,.int .i64 x.f2,.int .i64 x.f3],.agg #[.int .i64 y.f0,.int .i64 y.f1,.int .i64 y.f2,.int .i64 y.f3]] eg (by rfl) rfl rfl (by rfl) (by simp only [List.map_toArray,List.map_cons,List.map_nil];rfl) ?_
    refine HCALL.out.mono ?_
    rintro e w3 ⟨rfl,hk3⟩
    refine ⟨_,rfl,?_⟩
    refine hK.out _ _ ?_
    clear hK K
    refine norm_ (a':=?_) ?_ ?_;rotate_left;show Act.put _ (some 22) _=_;simp only [nS];rfl
    refine pu 11 (some 23) ?_ rfl rfl (by kernel_rfl) (fun _ _ _ h=>h) (.inl ⟨by rfl,?_⟩) ?_ ?_ ?_;rotate_left;intro w';go_simp;with_reducible rfl;rotate_left;simp only [nS];rfl
    refine done_ (by kernel_rfl) ?_
    have HB3:=aK (below_step (below_drew1 HB.out) hk3)
    clear hk3
    go_wp2
    go_ret
    exact ⟨by rw [HI3.out];rfl,HB3.out⟩
  ·have hlti : ¬ (kk:Int)<(l0.length:Int):=by omega
   have HI3:Aside0 (chainB ok l0=true):=⟨by rw [HI.out];exact chainB_short _ (by have:=HK.out;simp;omega)⟩
   clear HI
   go_wp2
   go_ret
   exact ⟨by rw [HI3.out];rfl,HB.out⟩
def codeB (n:Int):Bool:=decide (0≤n) && decide (n≤255)
def coordB (n:Int):Bool:=decide (-268435455≤n) && decide (n≤268435455)
def okC (x:S50):Bool:=codeB x.f0 && coordB x.f1 && coordB x.f2 && coordB x.f3
def okR (x:S45):Bool:=(if x.f2=0 then coordB x.f3 else codeB x.f3) && codeB x.f0 && codeB x.f1 && decide (0≤x.f2) && decide (x.f2≤4)
theorem isCode_is (n:Int):metric_isCode.f n=some (codeB n):=by
 unfold metric_isCode.f codeB
 by_cases h:n≥0
 ·rw [if_pos h,decide_eq_true (show 0≤n from h)];rfl
 ·rw [if_neg h,decide_eq_false (show ¬ 0≤n from h)];rfl
theorem isCoord_is (n:Int):metric_isCoord.f n=some (coordB n):=by
 unfold metric_isCoord.f coordB
 by_cases h:n≥-268435455
 ·rw [if_pos h,decide_eq_true (show -268435455≤n from h)];rfl
 ·rw [if_neg h,decide_eq_false (show ¬ -268435455≤n from h)];rfl
theorem isChar_is (x:S50):metric_isChar.f x.f0 x.f1 x.f2 x.f3=some (okC x):=by
 unfold metric_isChar.f okC
 simp only [isCode_is,isCoord_is,Option.bind_some]
 cases codeB x.f0 <;> cases coordB x.f1 <;> cases coordB x.f2 <;> cases coordB x.f3 <;> rfl
theorem isRule_is (x:S45):metric_isRule.f x.f0 x.f1 x.f2 x.f3=some (okR x):=by
 unfold metric_isRule.f okR
 simp only [isCode_is,isCoord_is,Option.bind_some]
 by_cases h0:x.f2=0
 ·rw [if_pos h0,if_pos h0,h0]
  cases codeB x.f0 <;> cases codeB x.f1 <;> cases coordB x.f3 <;> rfl
 ·rw [if_neg h0,if_neg h0]
  by_cases h1:0≤x.f2
  ·by_cases h2:x.f2≤4
   ·cases codeB x.f0 <;> cases codeB x.f1 <;> cases codeB x.f3 <;> simp [h1,h2]
   ·cases codeB x.f0 <;> cases codeB x.f1 <;> cases codeB x.f3 <;> simp [h1,h2]
  ·cases codeB x.f0 <;> cases codeB x.f1 <;> cases codeB x.f3 <;> simp [h1]
def lessC (x y:S50):Bool:=decide (cmpC x y<0)
def lessR (x y:S45):Bool:=decide (cmpR x y<0)
def validR (rs:List S45):Bool:=decide (rs.length≤500) && (rs.all okR && chainB lessR rs)
theorem allC_calls (A:Option Addr) (c:Nat) (l:List S50) (w:World) (hr:Kd.C k50 w A l.length l) (hl:l.length≤1000000000000):Calls Tryz.prog 33 #[.slice A l.length c,.func (.func 34) #[] #[]] w fun e w'=>e = .returned (.bool (l.all okC))∧Below w.heap.size w w' :=
 all_prsC 34 okC (enters_own Tryz.func34 (by kernel_rfl) rfl) A c l w (fun W x=>metric_isChar.calls _ _ _ _ _ W (isChar_is x)) hr (by omega)
theorem allR_calls (A:Option Addr) (c:Nat) (l:List S45) (w:World) (hr:Kd.C k45 w A l.length l) (hl:l.length≤1000000000000):Calls Tryz.prog 51 #[.slice A l.length c,.func (.func 52) #[] #[]] w fun e w'=>e = .returned (.bool (l.all okR))∧Below w.heap.size w w' :=
 all_prsR 52 okR (enters_own Tryz.func52 (by kernel_rfl) rfl) A c l w (fun W x=>metric_isRule.calls _ _ _ _ _ W (isRule_is x)) hr (by omega)
theorem risingC_calls (A:Option Addr) (c:Nat) (l:List S50) (w:World) (hr:Kd.C k50 w A l.length l) (hl:l.length≤1000000000000):Calls Tryz.prog 35 #[.slice A l.length c,.func (.func 36) #[] #[]] w fun e w'=>e = .returned (.bool (chainB lessC l))∧Below w.heap.size w w' :=
 rising_prsC 36 cmpC (enters_own Tryz.func36 (by kernel_rfl) rfl) A c l w (fun W x y=>cmpC_calls W x y) hr hl
theorem risingR_calls (A:Option Addr) (c:Nat) (l:List S45) (w:World) (hr:Kd.C k45 w A l.length l) (hl:l.length≤1000000000000):Calls Tryz.prog 87 #[.slice A l.length c,.func (.func 55) #[] #[]] w fun e w'=>e = .returned (.bool (chainB lessR l))∧Below w.heap.size w w' :=
 rising_prsR 55 cmpR (enters_own Tryz.func55 (by kernel_rfl) rfl) A c l w (fun W x y=>cmpR_calls W x y) hr hl
set_option maxHeartbeats 4000000 in
theorem validRules_calls (A:Option Addr) (c:Nat) (l:List S45) (w:World) (hr:Kd.C k45 w A l.length l) (hl:l.length≤1000000000000):Calls Tryz.prog 37 #[.slice A l.length c] w fun e w'=>e = .returned (.bool (validR l))∧Below w.heap.size w w':=by
 have HA:=aK (allR_calls A c l w hr hl)
 have HR:=aK (fun V (h:Kd.C k45 V A l.length l)=>risingR_calls A c l V h hl)
 have HC:=aK hr
 have HV:Aside0 (validR l=(decide (l.length≤500) && (l.all okR && chainB lessR l))):=⟨rfl⟩
 generalize validR l=r at *
 clear hr
 by_cases h5:l.length≤500
 ·have h5i:(l.length:Int)≤500:=by omega
  have h5b:decide ((l.length:Int)≤500)=true:=decide_eq_true h5i
  rw [decide_eq_true h5,Bool.true_and] at HV
  cases hq:l.all okR with
  | false =>
   rw [hq] at HA HV
   rw [Bool.false_and] at HV
   clear hq
   go_enter Tryz.func37,Tryz.ntmps37
   go_wp2_with fail
   refine HA.out.mono ?_
   rintro e W1 ⟨rfl,hb1⟩
   go_wp2
   go_ret
   exact ⟨by rw [HV.out];rfl,hb1⟩
  | true =>
   rw [hq] at HA HV
   rw [Bool.true_and] at HV
   clear hq
   go_enter Tryz.func37,Tryz.ntmps37
   go_wp2_with fail
   refine HA.out.mono ?_
   rintro e W1 ⟨rfl,hb1⟩
   go_wp2_with fail
   refine (HR.out _ (Kd.C_below HC.out hb1)).mono ?_
   rintro e W2 ⟨rfl,hb2⟩
   have HB:=aK (below_step hb1 hb2)
   generalize chainB lessR l=q at *
   clear hb1 hb2
   go_wp2
   go_ret
   exact ⟨by rw [HV.out];first|rfl|(cases q <;> rfl),HB.out⟩
 ·have h5i : ¬ (l.length:Int)≤500:=by omega
  have h5b:decide ((l.length:Int)≤500)=false:=decide_eq_false h5i
  rw [decide_eq_false h5,Bool.false_and] at HV
  go_enter Tryz.func37,Tryz.ntmps37
  go_wp2
  go_ret
  exact ⟨by rw [HV.out];rfl,Below.refl _ _⟩
def sizeB (n:Int):Bool:=decide (1≤n) && decide (n≤268435455)
theorem isSize_is (n:Int):metric_IsSize.f n=some (sizeB n):=by
 unfold metric_IsSize.f sizeB
 by_cases h:n≥1
 ·rw [if_pos h,decide_eq_true (show 1≤n from h)];rfl
 ·rw [if_neg h,decide_eq_false (show ¬ 1≤n from h)];rfl
def validM (sz:Int) (cs:List S50) (rs:List S45):Bool:=sizeB sz && (decide (cs.length≤256) && (cs.all okC && (chainB lessC cs && validR rs)))
set_option maxHeartbeats 4000000 in
theorem valid_calls (sz : Int) (A1 : Option Addr) (c1 : Nat) (cs : List S50) (A2 : Option Addr) (c2 : Nat) (rs : List S45) (w : World) (hr1 : Kd.C k50 w A1 cs.length cs) (hr2 : Kd.C k45 w A2 rs.length rs) (hl1 : cs.length ≤ 1000000000000) (hl2 : rs.length ≤ 1000000000000) :
  Calls Tryz.prog 13 #[.agg #[.int .i64 sz,.slice A1 cs.length c1,.slice A2 rs.length c2]] w fun e w'=>e = .returned (.bool (validM sz cs rs))∧Below w.heap.size w w':=by
 have hu:=Tryz.underlying25
 have HB0:=aK (below_alloc (Below.refl w.heap.size w) (.cells #[.int .i64 sz,.slice A1 cs.length c1,.slice A2 rs.length c2] 25))
 have HK:=aK (blk_new w (.cells #[.int .i64 sz,.slice A1 cs.length c1,.slice A2 rs.length c2] 25))
 have HS:=aK (fun V=>metric_IsSize.calls sz (sizeB sz) V (isSize_is sz))
 have HA:=aK (fun V (h:Below w.heap.size w V)=>allC_calls A1 c1 cs V (Kd.C_below hr1 h) hl1)
 have HR:=aK (fun V (h:Below w.heap.size w V)=>risingC_calls A1 c1 cs V (Kd.C_below hr1 h) hl1)
 have HVR:=aK (fun V (h:Below w.heap.size w V)=>validRules_calls A2 c2 rs V (Kd.C_below hr2 h) hl2)
 have HV:Aside0 (validM sz cs rs=(sizeB sz && (decide (cs.length≤256) && (cs.all okC && (chainB lessC cs && validR rs))))):=⟨rfl⟩
 generalize validM sz cs rs=r at *
 have p0:=(blk_cell HK.out 0).trans rfl
 have p1:=(blk_cell HK.out 1).trans rfl
 have p2:=(blk_cell HK.out 2).trans rfl
 clear hr1 hr2 hl1 hl2
 cases hq1:sizeB sz with
 | false =>
  rw [hq1] at HS HV
  rw [Bool.false_and] at HV
  clear hq1
  go_enter Tryz.func13,Tryz.ntmps13
  go_wp2_with fail
  refine (HS.out _).mono ?_
  rintro e W1 ⟨rfl,⟨n1,rfl⟩⟩
  go_wp2
  go_ret
  exact ⟨by rw [HV.out];rfl,pw_below_drewN HB0.out n1⟩
 | true =>
 rw [hq1] at HS HV
 rw [Bool.true_and] at HV
 clear hq1
 by_cases h5:cs.length≤256
 case neg =>
  have h5i : ¬ (cs.length:Int)≤256:=by omega
  have h5b:decide ((cs.length:Int)≤256)=false:=decide_eq_false h5i
  rw [decide_eq_false h5,Bool.false_and] at HV
  go_enter Tryz.func13,Tryz.ntmps13
  go_wp2_with fail
  refine (HS.out _).mono ?_
  rintro e W1 ⟨rfl,⟨n1,rfl⟩⟩
  go_wp2
  go_ret
  exact ⟨by rw [HV.out];rfl,pw_below_drewN HB0.out n1⟩
 have h5i:(cs.length:Int)≤256:=by omega
 have h5b:decide ((cs.length:Int)≤256)=true:=decide_eq_true h5i
 rw [decide_eq_true h5,Bool.true_and] at HV
 go_enter Tryz.func13,Tryz.ntmps13
 go_wp2_with fail
 refine (HS.out _).mono ?_
 rintro e W1 ⟨rfl,⟨n1,rfl⟩⟩
 have hc:=HA.out _ (pw_below_drewN HB0.out n1)
 cases hq:cs.all okC with
 | false =>
  rw [hq] at hc HV
  rw [Bool.false_and] at HV
  clear hq
  go_wp2_with fail
  refine hc.mono ?_
  rintro e W2 ⟨rfl,hb2⟩
  have HB:=aK (below_step (pw_below_drewN HB0.out n1) hb2)
  clear hc hb2
  go_wp2
  go_ret
  exact ⟨by rw [HV.out];rfl,HB.out⟩
 | true =>
 rw [hq] at hc HV
 rw [Bool.true_and] at HV
 clear hq
 go_wp2_with fail
 refine hc.mono ?_
 rintro e W2 ⟨rfl,hb2⟩
 have HB:=aK (below_step (pw_below_drewN HB0.out n1) hb2)
 have HK2:=aK (blk_below (blk_drewN HK.out n1) hb2)
 clear hc hb2 HK p0 p1 p2
 have p1:=(blk_cell HK2.out 1).trans rfl
 have p2:=(blk_cell HK2.out 2).trans rfl
 have hc:=HR.out _ HB.out
 cases hq:chainB lessC cs with
 | false =>
  rw [hq] at hc HV
  rw [Bool.false_and] at HV
  clear hq
  go_wp2_with fail
  refine hc.mono ?_
  rintro e W3 ⟨rfl,hb3⟩
  have HB3:=aK (below_step HB.out hb3)
  clear hc hb3
  go_wp2
  go_ret
  exact ⟨by rw [HV.out];rfl,HB3.out⟩
 | true =>
 rw [hq] at hc HV
 rw [Bool.true_and] at HV
 clear hq
 go_wp2_with fail
 refine hc.mono ?_
 rintro e W3 ⟨rfl,hb3⟩
 have HB3:=aK (below_step HB.out hb3)
 have HK3:=aK (blk_below HK2.out hb3)
 clear hc hb3 HK2 p1 p2 HB
 have p2:=(blk_cell HK3.out 2).trans rfl
 have hc:=HVR.out _ HB3.out
 generalize validR rs=q at *
 go_wp2_with fail
 refine hc.mono ?_
 rintro e W4 ⟨rfl,hb4⟩
 have HB4:=aK (below_step HB3.out hb4)
 clear hc hb4
 go_wp2
 go_ret
 exact ⟨by rw [HV.out];first|rfl|(cases q <;> rfl),HB4.out⟩
def be1 (n:Int):List Int:=[n % 256]
def be2 (n:Int):List Int:=[n / 256 % 256,n % 256]
def be4 (n:Int):List Int:=[n / 16777216 % 256,n / 65536 % 256,n / 256 % 256,n % 256]
def FileAt (w:World) (base b:Nat) (l:List Int):Prop:=∃ v,w.heap[b]?=some (.cells #[v] 98 (0,0))∧Kd.R (Kd.int .u8) 5 w base (fun _=>True) v l
def KeepF (w w':World) (b:Nat):Prop:=w.heap.size≤w'.heap.size∧∀ k,k<w.heap.size→k≠b→(∀ cs,w.heap[k]?≠some (.cells cs 5 (0,0)))→w'.heap[k]?=w.heap[k]?
theorem KeepF.refl (w:World) (b:Nat):KeepF w w b:=⟨Nat.le_refl _,fun _ _ _ _=>rfl⟩
theorem KeepF.blk {w w':World} {b k:Nat} {cs:Array Value} {t:TypeId} (h:KeepF w w' b) (hk:w.heap[k]?=some (.cells cs t (0,0))) (ht:t≠5) (hne:k≠b):w'.heap[k]?=some (.cells cs t (0,0)):=by
 refine (h.2 k (blk_lt hk) hne (fun cs' e=>?_)).trans hk
 rw [hk] at e
 injection e with e
 injection e with _ e
 exact ht e
theorem KeepF.of_below {w w':World} (b:Nat) (h:Below w.heap.size w w'):KeepF w w' b:=⟨h.size,fun k hk _ _=>h.block k hk⟩
theorem KeepF.row {α:Type} {d:Kd α} {e base b:Nat} {ok:Nat→Prop} {v:Value} {xs:List α} {w w':World} {cs:Array Value} {t:TypeId} (h:KeepF w w' b) (ho:d.R e w base ok v xs) (hb:w.heap[b]?=some (.cells cs t (0,0))) (h1 : ∀ q,q∈e::d.E→q≠5∧q≠t):d.R e w' base ok v xs:=by
 refine Kd.R_mono (Kd.R_move (Kd.R_bound ho) (fun k hk=>?_)) (fun _ hk=>hk.1)
 obtain ⟨_,_,hlt,q,hq,cells,hc⟩:=hk
 refine (h.blk hc (h1 q hq).1 ?_).trans hc.symm
 rintro rfl
 rw [hc] at hb
 injection hb with hb
 injection hb with _ hb
 exact (h1 q hq).2 hb
theorem reps_u8 {w:World} {base:Nat} {ok:Nat→Prop} (xs:List Int):Reps ((Kd.int .u8).M w base ok) (Kd.int .u8).sz xs (nums .u8 xs):=by
 refine ⟨by rw [nums,List.length_map];exact (Nat.mul_one _).symm,fun j p hj=>?_⟩
 obtain ⟨hx,rfl⟩:=List.getElem?_eq_some_iff.1 hj
 show ((xs.map (Value.int .u8)).drop (j*1)).take 1=[Value.int .u8 xs[j]]
 rw [Nat.mul_one,List.drop_eq_getElem_cons (by simpa using hx)]
 simp
theorem lit_C8 (W:World) (t:TypeId) (xs:List Int) (h:xs.length≤9223372036854775807):Kd.C (Kd.int .u8) (W.alloc (.cells (nums .u8 xs).toArray t)) (some ⟨W.heap.size,0,none⟩) xs.length xs:=by
 have hR:Kd.R (Kd.int .u8) t (W.alloc (.cells (nums .u8 xs).toArray t)) W.heap.size (fun _=>True) (.slice (some ⟨W.heap.size,0,none⟩) xs.length xs.length) xs:=⟨fun _ _=>trivial,nums .u8 xs,own_lit W W.heap.size t .u8 xs (Nat.le_refl _) h,reps_u8 xs⟩
 exact (Kd.R_reads' hR).2.2
theorem file_put {w0 W w1 : World} {base b : Nat} {v v1 : Value} {l l' : List Int} (hb : W.heap[b]? = some (.cells #[v] 98 (0, 0))) (ho : Kd.R (Kd.int .u8) 5 W base (fun _ => True) v l)
  (h1:Kd.R (Kd.int .u8) 5 w1 base (fun _=>True) v1 l') (hB1:Below w0.heap.size w0 w1) (hg:W.grownBy w1 v.ownBlock) (hbb:w0.heap.size≤b) :
  FileAt (w1.setCell ⟨b,0,none⟩ v1) base b l'∧Below w0.heap.size w0 (w1.setCell ⟨b,0,none⟩ v1)∧KeepF W (w1.setCell ⟨b,0,none⟩ v1) b:=by
 have hne:=Kd.R_ne ho hb (by decide)
 have hb1:=blk_grown hb hg hne
 refine ⟨⟨v1,blk_put hb1 0 v1 rfl,Kd.R_set h1 hb1 (by decide) 0 v1⟩,below_set hB1 hbb,?_,fun k hk hkb hk5=>?_⟩
 ·simpa [World.setCell] using hg.size
 ·refine (Below.heap_setCell w1 ⟨b,0,none⟩ v1 k hkb).trans (hg.block k hk (fun e=>?_))
  obtain ⟨cells,hc⟩:=own_typed ho.2.choose_spec.1 k e.symm
  exact hk5 cells hc
theorem grown_alloc {α:Type} {d:Kd α} {e base:Nat} {ok:Nat→Prop} {v:Value} {xs:List α} {W w1:World} {o:Obj} (ho:d.R e W base ok v xs) (hg:(W.alloc o).grownBy w1 v.ownBlock):W.grownBy w1 v.ownBlock :=
 ⟨hg.os,hg.tape,hg.output,by have:=hg.size;simp at this;omega,fun k hk hne=>(hg.block k (by simp;omega) hne).trans ((below_alloc (Below.refl W.heap.size W) o).block k hk)⟩
set_option maxHeartbeats 4000000 in
theorem fileOne (w0 : World) (b : Nat) (n : Int) (l : List Int) (W : World) (hB : Below w0.heap.size w0 W) (hbb : w0.heap.size ≤ b) (hF : FileAt W w0.heap.size b l) (hl : l.length ≤ 1000000000) :
  Calls Tryz.prog 75 #[.pointer (some ⟨b,0,none⟩),.int .i64 n] W fun e w'=>e = .returned (.tuple #[])∧FileAt w' w0.heap.size b (l++be1 n)∧Below w0.heap.size w0 w'∧KeepF W w' b:=by
 have hu:=Tryz.underlying98
 obtain ⟨v,hb,ho⟩:=hF
 obtain ⟨A0,c0,rfl⟩:=Kd.R_slice ho
 have HL:=aK hl
 have HB:=aK hB
 have HO:=aK ho
 have HK:=aK hb
 have HS:=aK (show w0.heap.size≤W.heap.size from hB.size)
 have HBB:=aK hbb
 have p0:=(blk_cell hb 0).trans rfl
 have p1:=(blk_cell (blk_alloc hb (.cells #[.int .u8 (n % 256)] 5)) 0).trans rfl
 clear hb ho hB hl hbb
 go_enter Tryz.func75,Tryz.ntmps75
 go_wp2_with ((with_reducible refine gate_builtin (b:=.append) (xs:=#[.tmp 8,.tmp 11]) rfl ?_);at_builtin;refine Kd.R_append_rows (Kd.int .u8) (w0:=w0) w0.heap.size rfl (.tmp 8) (.tmp 11) 28 5 (.int .u8 0) 1 rfl Tryz.underlying28 info5 rfl (by decide) (by omega) (.slice A0 l.length c0) l (be1 n) (some ⟨W.heap.size,0,none⟩) 1 1 (fun _=>True) (fun _=>False) rfl rfl ?aO ?aR (fun _ _ h=>h) (fun _ h=>h.elim) (fun _ _=>trivial) ?aB ?aS ?aL ?_;(case aO=>exact Kd.R_alloc HO.out _);(case aR=>exact lit_C8 W 5 (be1 n) (by simp only [be1,List.length_cons,List.length_nil];omega));(case aB=>exact below_alloc HB.out _);(case aS=>have:=HS.out;simp;omega);(case aL=>have:=HL.out;omega);intro v1 w1 ho hb hg hat;obtain ⟨A1,c1,rfl⟩:=Kd.R_slice ho;have hg':=grown_alloc (o:=.cells #[.int .u8 (n % 256)] 5) HO.out hg;have hne:=Kd.R_ne HO.out HK.out (by decide);have q0:=(blk_cell (blk_grown HK.out hg' hne) 0).trans rfl;have q1:=blk_frozen (blk_grown HK.out hg' hne) 0;have HFP:=aK (file_put HK.out HO.out ho hb hg' HBB.out);clear ho hb hg hg' hat hne)
 go_end0
 have h:=HFP.out
 rw [List.length_append] at h
 exact ⟨rfl,h⟩
set_option maxHeartbeats 4000000 in
theorem fileFour (w0 : World) (b : Nat) (n : Int) (l : List Int) (W : World) (hB : Below w0.heap.size w0 W) (hbb : w0.heap.size ≤ b) (hF : FileAt W w0.heap.size b l) (hl : l.length ≤ 1000000000) :
  Calls Tryz.prog 69 #[.pointer (some ⟨b,0,none⟩),.int .i64 n] W fun e w'=>e = .returned (.tuple #[])∧FileAt w' w0.heap.size b (l++be4 n)∧Below w0.heap.size w0 w'∧KeepF W w' b:=by
 have hu:=Tryz.underlying98
 obtain ⟨v,hb,ho⟩:=hF
 obtain ⟨A0,c0,rfl⟩:=Kd.R_slice ho
 have HL:=aK hl
 have HB:=aK hB
 have HO:=aK ho
 have HK:=aK hb
 have HS:=aK (show w0.heap.size≤W.heap.size from hB.size)
 have HBB:=aK hbb
 have p0:=(blk_cell hb 0).trans rfl
 have p1:=(blk_cell (blk_alloc hb (.cells #[.int .u8 (n / 16777216 % 256),.int .u8 (n / 65536 % 256),.int .u8 (n / 256 % 256),.int .u8 (n % 256)] 5)) 0).trans rfl
 clear hb ho hB hl hbb
 go_enter Tryz.func69,Tryz.ntmps69
 go_wp2_with ((with_reducible refine gate_builtin (b:=.append) (xs:=#[.tmp 8,.tmp 20]) rfl ?_);at_builtin;refine Kd.R_append_rows (Kd.int .u8) (w0:=w0) w0.heap.size rfl (.tmp 8) (.tmp 20) 28 5 (.int .u8 0) 1 rfl Tryz.underlying28 info5 rfl (by decide) (by omega) (.slice A0 l.length c0) l (be4 n) (some ⟨W.heap.size,0,none⟩) 4 4 (fun _=>True) (fun _=>False) rfl rfl ?aO ?aR (fun _ _ h=>h) (fun _ h=>h.elim) (fun _ _=>trivial) ?aB ?aS ?aL ?_;(case aO=>exact Kd.R_alloc HO.out _);(case aR=>exact lit_C8 W 5 (be4 n) (by simp only [be4,List.length_cons,List.length_nil];omega));(case aB=>exact below_alloc HB.out _);(case aS=>have:=HS.out;simp;omega);(case aL=>have:=HL.out;omega);intro v1 w1 ho hb hg hat;obtain ⟨A1,c1,rfl⟩:=Kd.R_slice ho;have hg':=grown_alloc (o:=.cells #[.int .u8 (n / 16777216 % 256),.int .u8 (n / 65536 % 256),.int .u8 (n / 256 % 256),.int .u8 (n % 256)] 5) HO.out hg;have hne:=Kd.R_ne HO.out HK.out (by decide);have q0:=(blk_cell (blk_grown HK.out hg' hne) 0).trans rfl;have q1:=blk_frozen (blk_grown HK.out hg' hne) 0;have HFP:=aK (file_put HK.out HO.out ho hb hg' HBB.out);clear ho hb hg hg' hat hne)
 go_end0
 have h:=HFP.out
 rw [List.length_append] at h
 exact ⟨rfl,h⟩
def metric_width.f (a0_0:Int) (a0_1:Int) (a0_2:Int) (a0_3:Int):Option (Int):=some a0_1
set_option maxHeartbeats 8000000 in
theorem metric_width.calls (a0_0 : Int) (a0_1 : Int) (a0_2 : Int) (a0_3 : Int) (r : Int) (w : World) (h : metric_width.f a0_0 a0_1 a0_2 a0_3 = some r) :
  Calls Tryz.prog 70 #[.agg #[.int .i64 a0_0,.int .i64 a0_1,.int .i64 a0_2,.int .i64 a0_3]] w fun e w'=>e = .returned (.int .i64 r)∧Below w.heap.size w w':=by
 have hu50:=Tryz.underlying50
 have HB:=aK (Below.refl w.heap.size w)
 have H:(some a0_1)=some r:=h
 clear h
 obtain rfl:=Option.some.inj H
 go_enter Tryz.func70,Tryz.ntmps70
 go_wp2_with (first|((with_reducible refine gate_dst (N:=1) rfl ?_);refine box_event ?hg (N:=1) ?hd (cs:=#[.int .i64 a0_0,.int .i64 a0_1,.int .i64 a0_2,.int .i64 a0_3]) (t:=50) ?hr ?_;(case hd=>rfl);(case hg=>rfl);(case hr=>first|(go_simp;done)|(go_simp;rfl));intro gb118 hg w2 hbox hb;have n0_:=aK (below_step (by repeat (first|(with_reducible first|exact HB.out|apply below_alloc|apply pw_below_drewN|apply below_drew1)|exact HB.out)) hb);have n1_:=aK (hbox);have n2_:=aK ((by rw [hg];exact (below_size (by repeat (first|(with_reducible first|exact HB.out|apply below_alloc|apply pw_below_drewN|apply below_drew1)|exact HB.out))):w.heap.size≤gb118));have n3_:=n2_;clear HB;have HB:=n0_;have BK118:=n1_;have GW118:=n2_;have GE118:=n3_;clear n0_ n1_ n2_ n3_;clear hb hbox hg;have hcz3_0:w2.cell? ⟨gb118,0,none⟩=some (.int .i64 a0_0):=(blk_cell BK118.out 0).trans rfl;have hcz3_1:w2.cell? ⟨gb118,1,none⟩=some (.int .i64 a0_1):=(blk_cell BK118.out 1).trans rfl;have hcz3_2:w2.cell? ⟨gb118,2,none⟩=some (.int .i64 a0_2):=(blk_cell BK118.out 2).trans rfl;have hcz3_3:w2.cell? ⟨gb118,3,none⟩=some (.int .i64 a0_3):=(blk_cell BK118.out 3).trans rfl;have hfz3_0:=blk_frozen BK118.out 0;have hfz3_1:=blk_frozen BK118.out 1;have hfz3_2:=blk_frozen BK118.out 2;have hfz3_3:=blk_frozen BK118.out 3))
 go_ret
 exact ⟨by first|rfl|(simp [errW_none,errW_some] <;> rfl)|(simp [*,errW_none,errW_some] <;> rfl),by repeat (first|(with_reducible first|exact HB.out|apply below_alloc|apply pw_below_drewN|apply below_drew1|refine below_set ?_ GE118.out)|exact HB.out)⟩
def metric_height.f (a0_0:Int) (a0_1:Int) (a0_2:Int) (a0_3:Int):Option (Int):=some a0_2
set_option maxHeartbeats 8000000 in
theorem metric_height.calls (a0_0 : Int) (a0_1 : Int) (a0_2 : Int) (a0_3 : Int) (r : Int) (w : World) (h : metric_height.f a0_0 a0_1 a0_2 a0_3 = some r) :
  Calls Tryz.prog 71 #[.agg #[.int .i64 a0_0,.int .i64 a0_1,.int .i64 a0_2,.int .i64 a0_3]] w fun e w'=>e = .returned (.int .i64 r)∧Below w.heap.size w w':=by
 have hu50:=Tryz.underlying50
 have HB:=aK (Below.refl w.heap.size w)
 have H:(some a0_2)=some r:=h
 clear h
 obtain rfl:=Option.some.inj H
 go_enter Tryz.func71,Tryz.ntmps71
 go_wp2_with (first|((with_reducible refine gate_dst (N:=1) rfl ?_);refine box_event ?hg (N:=1) ?hd (cs:=#[.int .i64 a0_0,.int .i64 a0_1,.int .i64 a0_2,.int .i64 a0_3]) (t:=50) ?hr ?_;(case hd=>rfl);(case hg=>rfl);(case hr=>first|(go_simp;done)|(go_simp;rfl));intro gb119 hg w2 hbox hb;have n0_:=aK (below_step (by repeat (first|(with_reducible first|exact HB.out|apply below_alloc|apply pw_below_drewN|apply below_drew1)|exact HB.out)) hb);have n1_:=aK (hbox);have n2_:=aK ((by rw [hg];exact (below_size (by repeat (first|(with_reducible first|exact HB.out|apply below_alloc|apply pw_below_drewN|apply below_drew1)|exact HB.out))):w.heap.size≤gb119));have n3_:=n2_;clear HB;have HB:=n0_;have BK119:=n1_;have GW119:=n2_;have GE119:=n3_;clear n0_ n1_ n2_ n3_;clear hb hbox hg;have hcz3_0:w2.cell? ⟨gb119,0,none⟩=some (.int .i64 a0_0):=(blk_cell BK119.out 0).trans rfl;have hcz3_1:w2.cell? ⟨gb119,1,none⟩=some (.int .i64 a0_1):=(blk_cell BK119.out 1).trans rfl;have hcz3_2:w2.cell? ⟨gb119,2,none⟩=some (.int .i64 a0_2):=(blk_cell BK119.out 2).trans rfl;have hcz3_3:w2.cell? ⟨gb119,3,none⟩=some (.int .i64 a0_3):=(blk_cell BK119.out 3).trans rfl;have hfz3_0:=blk_frozen BK119.out 0;have hfz3_1:=blk_frozen BK119.out 1;have hfz3_2:=blk_frozen BK119.out 2;have hfz3_3:=blk_frozen BK119.out 3))
 go_ret
 exact ⟨by first|rfl|(simp [errW_none,errW_some] <;> rfl)|(simp [*,errW_none,errW_some] <;> rfl),by repeat (first|(with_reducible first|exact HB.out|apply below_alloc|apply pw_below_drewN|apply below_drew1|refine below_set ?_ GE119.out)|exact HB.out)⟩
def metric_depth.f (a0_0:Int) (a0_1:Int) (a0_2:Int) (a0_3:Int):Option (Int):=some a0_3
set_option maxHeartbeats 8000000 in
theorem metric_depth.calls (a0_0 : Int) (a0_1 : Int) (a0_2 : Int) (a0_3 : Int) (r : Int) (w : World) (h : metric_depth.f a0_0 a0_1 a0_2 a0_3 = some r) :
  Calls Tryz.prog 72 #[.agg #[.int .i64 a0_0,.int .i64 a0_1,.int .i64 a0_2,.int .i64 a0_3]] w fun e w'=>e = .returned (.int .i64 r)∧Below w.heap.size w w':=by
 have hu50:=Tryz.underlying50
 have HB:=aK (Below.refl w.heap.size w)
 have H:(some a0_3)=some r:=h
 clear h
 obtain rfl:=Option.some.inj H
 go_enter Tryz.func72,Tryz.ntmps72
 go_wp2_with (first|((with_reducible refine gate_dst (N:=1) rfl ?_);refine box_event ?hg (N:=1) ?hd (cs:=#[.int .i64 a0_0,.int .i64 a0_1,.int .i64 a0_2,.int .i64 a0_3]) (t:=50) ?hr ?_;(case hd=>rfl);(case hg=>rfl);(case hr=>first|(go_simp;done)|(go_simp;rfl));intro gb120 hg w2 hbox hb;have n0_:=aK (below_step (by repeat (first|(with_reducible first|exact HB.out|apply below_alloc|apply pw_below_drewN|apply below_drew1)|exact HB.out)) hb);have n1_:=aK (hbox);have n2_:=aK ((by rw [hg];exact (below_size (by repeat (first|(with_reducible first|exact HB.out|apply below_alloc|apply pw_below_drewN|apply below_drew1)|exact HB.out))):w.heap.size≤gb120));have n3_:=n2_;clear HB;have HB:=n0_;have BK120:=n1_;have GW120:=n2_;have GE120:=n3_;clear n0_ n1_ n2_ n3_;clear hb hbox hg;have hcz3_0:w2.cell? ⟨gb120,0,none⟩=some (.int .i64 a0_0):=(blk_cell BK120.out 0).trans rfl;have hcz3_1:w2.cell? ⟨gb120,1,none⟩=some (.int .i64 a0_1):=(blk_cell BK120.out 1).trans rfl;have hcz3_2:w2.cell? ⟨gb120,2,none⟩=some (.int .i64 a0_2):=(blk_cell BK120.out 2).trans rfl;have hcz3_3:w2.cell? ⟨gb120,3,none⟩=some (.int .i64 a0_3):=(blk_cell BK120.out 3).trans rfl;have hfz3_0:=blk_frozen BK120.out 0;have hfz3_1:=blk_frozen BK120.out 1;have hfz3_2:=blk_frozen BK120.out 2;have hfz3_3:=blk_frozen BK120.out 3))
 go_ret
 exact ⟨by first|rfl|(simp [errW_none,errW_some] <;> rfl)|(simp [*,errW_none,errW_some] <;> rfl),by repeat (first|(with_reducible first|exact HB.out|apply below_alloc|apply pw_below_drewN|apply below_drew1|refine below_set ?_ GE120.out)|exact HB.out)⟩
def cmp_Less_int.f (a0:Int) (a1:Int):Option (Bool):=(cmp_isNaN_int.f a0).bind fun t121=>(if t121=true then ((cmp_isNaN_int.f a1).bind fun t122=>(if t122=true then (some (decide (a0<a1))) else (some true))) else (some (decide (a0<a1))))
set_option maxHeartbeats 8000000 in
theorem cmp_Less_int.calls (a0 : Int) (a1 : Int) (r : Bool) (w : World) (h : cmp_Less_int.f a0 a1 = some r) :
  Calls Tryz.prog 100 #[.int .i64 a0,.int .i64 a1] w fun e w'=>e = .returned (.bool r)∧Drawn0 w w':=by
 have H:((cmp_isNaN_int.f a0).bind fun t121=>(if t121=true then ((cmp_isNaN_int.f a1).bind fun t122=>(if t122=true then (some (decide (a0<a1))) else (some true))) else (some (decide (a0<a1)))))=some r:=h
 clear h
 replace H:=Option.bind_eq_some_iff.mp H
 obtain ⟨t121,A30,H⟩:=H
 replace H:(if t121=true then ((cmp_isNaN_int.f a1).bind fun t122=>(if t122=true then (some (decide (a0<a1))) else (some true))) else (some (decide (a0<a1))))=some r:=H
 have A3:=aK A30
 clear A30
 by_cases c4:t121=true
 ·subst c4
  have H1:((cmp_isNaN_int.f a1).bind fun t122=>(if t122=true then (some (decide (a0<a1))) else (some true)))=some r:=by rw [if_pos rfl] at H;exact H
  clear H
  have H:=H1
  clear H1
  replace H:=Option.bind_eq_some_iff.mp H
  obtain ⟨t122,A50,H⟩:=H
  replace H:(if t122=true then (some (decide (a0<a1))) else (some true))=some r:=H
  have A5:=aK A50
  clear A50
  by_cases c6:t122=true
  ·subst c6
   have H1:(some (decide (a0<a1)))=some r:=by rw [if_pos rfl] at H;exact H
   clear H
   have H:=H1
   clear H1
   obtain rfl:=Option.some.inj H
   go_enter Tryz.func100,Tryz.ntmps100
   go_wp2_with (first|((with_reducible refine gate_callee (f:=104) rfl ?_);refine goesL_ (some 6) rfl rfl Tryz.func104 (by kernel_rfl) rfl #[.int .i64 a0] rfl (by (try simp only [List.map_toArray,List.map_cons,List.map_nil]);first|done|rfl|(simp only [List.length_drop,List.length_take];rfl)) ?_;(with_reducible refine (cmp_isNaN_int.calls a0 true _ A3.out).mono ?_);rintro e w' ⟨rfl,⟨nd,rfl⟩⟩;refine ⟨_,rfl,?_⟩)|(go_at_call 104;(with_reducible refine (cmp_isNaN_int.calls a1 true _ A5.out).mono ?_);rintro e w' ⟨rfl,⟨nd,rfl⟩⟩))
   go_ret
   exact ⟨by first|rfl|(simp;done)|(simp [*];done),by repeat (first|exact Drawn0.refl _|apply Drawn0.step)⟩
  ·replace c6:=Bool.eq_false_iff.mpr c6
   subst c6
   have H1:(some true)=some r:=by rw [if_neg (show ¬ (false=true) by decide)] at H;exact H
   clear H
   have H:=H1
   clear H1
   obtain rfl:=Option.some.inj H
   go_enter Tryz.func100,Tryz.ntmps100
   go_wp2_with (first|((with_reducible refine gate_callee (f:=104) rfl ?_);refine goesL_ (some 6) rfl rfl Tryz.func104 (by kernel_rfl) rfl #[.int .i64 a0] rfl (by (try simp only [List.map_toArray,List.map_cons,List.map_nil]);first|done|rfl|(simp only [List.length_drop,List.length_take];rfl)) ?_;(with_reducible refine (cmp_isNaN_int.calls a0 true _ A3.out).mono ?_);rintro e w' ⟨rfl,⟨nd,rfl⟩⟩;refine ⟨_,rfl,?_⟩)|(go_at_call 104;(with_reducible refine (cmp_isNaN_int.calls a1 false _ A5.out).mono ?_);rintro e w' ⟨rfl,⟨nd,rfl⟩⟩))
   go_ret
   exact ⟨by first|rfl|(simp;done)|(simp [*];done),by repeat (first|exact Drawn0.refl _|apply Drawn0.step)⟩
 ·replace c4:=Bool.eq_false_iff.mpr c4
  subst c4
  have H1:(some (decide (a0<a1)))=some r:=by rw [if_neg (show ¬ (false=true) by decide)] at H;exact H
  clear H
  have H:=H1
  clear H1
  obtain rfl:=Option.some.inj H
  go_enter Tryz.func100,Tryz.ntmps100
  go_wp2_with (first|((with_reducible refine gate_callee (f:=104) rfl ?_);refine goesL_ (some 6) rfl rfl Tryz.func104 (by kernel_rfl) rfl #[.int .i64 a0] rfl (by (try simp only [List.map_toArray,List.map_cons,List.map_nil]);first|done|rfl|(simp only [List.length_drop,List.length_take];rfl)) ?_;(with_reducible refine (cmp_isNaN_int.calls a0 false _ A3.out).mono ?_);rintro e w' ⟨rfl,⟨nd,rfl⟩⟩;refine ⟨_,rfl,?_⟩))
  go_ret
  exact ⟨by first|rfl|(simp;done)|(simp [*];done),by repeat (first|exact Drawn0.refl _|apply Drawn0.step)⟩
theorem nums_of_reps {w:World} {base:Nat} {ok:Nat→Prop} {xs:List Int} {cs:List Value} (h:Reps ((Kd.int .i64).M w base ok) (Kd.int .i64).sz xs cs):cs=xs.map (Value.int .i64):=by
 obtain ⟨h1,h2⟩:=h
 have h1':cs.length=xs.length:=by rw [h1];exact Nat.mul_one _
 apply List.ext_getElem (by simpa using h1')
 intro j hj hj'
 have hx:j<xs.length:=by omega
 have h3:=h2 j xs[j] (List.getElem?_eq_getElem hx)
 have h4:(cs.drop (j*1)).take 1=[Value.int .i64 xs[j]]:=h3
 rw [Nat.mul_one] at h4
 have h5:(cs.drop j)[0]?=some (Value.int .i64 xs[j]):=by
  have h6:((cs.drop j).take 1)[0]?=[Value.int IntKind.i64 xs[j]][0]?:=by rw [h4]
  rw [List.getElem?_take_of_lt (by omega)] at h6
  exact h6
 rw [List.getElem?_drop,Nat.add_zero,List.getElem?_eq_getElem hj] at h5
 rw [List.getElem_map]
 exact Option.some.inj h5
theorem compactI_calls (u : Value) (l0 : List Int) (w0 w : World) (hB : Below w0.heap.size w0 w) (ho0 : Kd.R (Kd.int .i64) 3 w w0.heap.size (fun _ => True) u l0) (hl : l0.length ≤ 1000000000) :
  Calls Tryz.prog 99 #[u] w fun e w'=>∃ v,e = .returned v∧Kd.R (Kd.int .i64) 3 w' w0.heap.size (fun _=>True) v (Lib.compact l0)∧Below w0.heap.size w0 w':=by
 obtain ⟨h0,inner,ho,hr⟩:=ho0
 have hi:=nums_of_reps hr
 subst hi
 rcases ho.2 with ⟨rfl,hn⟩|⟨g,cap,cur,rfl,hbase,hh,hle,hcap,hsz,htk⟩
 ·have hl0:l0=[]:=List.length_eq_zero_iff.mp hn
  subst hl0
  refine (AnyG.slices_Compact_int_empty Tryz.compactI none 0 w).mono ?_
  rintro e w' ⟨rfl,rfl⟩
  exact ⟨_,rfl,Kd.R_nil _ _ _ _ _,hB⟩
 ·have hH:=holds_of_blockI (ss:=l0) hh (by rw [show l0.length*(Kd.int .i64).sz=l0.length from Nat.mul_one _] at htk;exact htk)
  have hlt:=lt_of_block hh
  refine (AnyG.slices_Compact_int Tryz.compactI g 0 cap l0 w hH (by omega) hle).mono ?_
  rintro e w' ⟨rfl,q,rfl⟩
  have hcl:(Lib.compact l0).length≤l0.length:=by
   unfold Lib.compact Lib.compactUpTo
   rw [List.length_map]
   exact Nat.le_trans (List.length_filter_le _ _) (by simp)
  obtain ⟨r,hr2⟩ : ∃ r,r=Lib.compact l0++List.replicate (l0.length-(Lib.compact l0).length) 0:=⟨_,rfl⟩
  have hrl:r.length=l0.length:=by rw [hr2];simp;omega
  have hW:Go.Sort.putRow (Value.int .i64) (Go.Sort.ahead w q) g 0 r.toArray=Go.Sort.grow (Go.Sort.putRow (Value.int .i64) (Go.Sort.ahead w q) g 0 r.toArray) #[]:=(Go.Sort.grow_empty _).symm
  rw [← hr2,hW]
  have hg:w.grownBy (Go.Sort.grow (Go.Sort.putRow (Value.int .i64) (Go.Sort.ahead w q) g 0 r.toArray) #[]) (some g):=grownBy_sortedI _
  have hR:Kd.R (Kd.int .i64) 3 (Go.Sort.grow (Go.Sort.putRow (Value.int .i64) (Go.Sort.ahead w q) g 0 r.toArray) #[]) w0.heap.size (fun _=>True) (.slice (some ⟨g,0,none⟩) r.length cap) r:=by
   refine ⟨fun _ _=>trivial,r.map (Value.int .i64),?_,reps_nums r⟩
   have:=ownsRow_sortedI (w:=w) (n:=q) (os:=#[]) (base:=w0.heap.size) (g:=g) (cap:=cap) (e:=3) (cur:=cur) (ss:=l0) (ts:=r) hrl hbase hh hle hcap hsz
   rw [hrl]
   exact this
  have hT:=Kd.R_take hR (m:=(Lib.compact l0).length) (by omega)
  have hE:r.take (Lib.compact l0).length=Lib.compact l0:=by rw [hr2];simp
  rw [hE] at hT
  exact ⟨_,rfl,hT,hB.grown hg hB.size (fun k hk=>by injection hk with hk;omega)⟩
def slices_Sort_int_int.f (l0:List Int):Option (List Int):=if l0.length<4611686018427387904 then some (l0.mergeSort fun x y=>decide (x≤y)) else none
theorem reps_of_nums {w:World} {base:Nat} {ok:Nat→Prop} (xs:List Int):Reps ((Kd.int .i64).M w base ok) (Kd.int .i64).sz xs (xs.map (Value.int .i64)):=by
 refine ⟨by rw [List.length_map];exact (Nat.mul_one _).symm,fun j p hj=>?_⟩
 obtain ⟨hx,rfl⟩:=List.getElem?_eq_some_iff.1 hj
 show ((xs.map (Value.int .i64)).drop (j*1)).take 1=[Value.int .i64 xs[j]]
 rw [Nat.mul_one,List.drop_eq_getElem_cons (by simpa using hx)]
 simp
theorem slices_Sort_int_int.calls (P0_ : Nat → Prop) (u9000_ : Value) (l0 : List Int) (r : List Int) (w0 w : World) (hB : Below w0.heap.size w0 w) (ho0 : Kd.R (Kd.int .i64) 3 w w0.heap.size P0_ u9000_ l0) (h : slices_Sort_int_int.f l0 = some r) :
  Calls Tryz.prog 98 #[u9000_] w fun e w'=>e = .returned (.tuple #[])∧Kd.R (Kd.int .i64) 3 w' w0.heap.size (fun k_=>(P0_ k_∨w.heap.size≤k_)) u9000_ r∧Below w0.heap.size w0 w'∧Kept w w' (fun k_=>P0_ k_):=by
 unfold slices_Sort_int_int.f at h
 by_cases hl:l0.length<4611686018427387904
 ·rw [if_pos hl] at h
  injection h with h
  obtain ⟨h0,inner,ho,hr⟩:=ho0
  have hi:=nums_of_reps hr
  subst hi
  rcases ho.2 with ⟨rfl,hn⟩|⟨g,cap,cur,rfl,hbase,hh,hle,hcap,hsz,htk⟩
  ·have hl0:l0=[]:=List.length_eq_zero_iff.mp hn
   subst hl0
   refine (AnyM.slices_Sort_int_none Tryz.sortI none 0 w).mono ?_
   rintro e w' ⟨rfl,rfl⟩
   refine ⟨rfl,?_,hB,Kept.refl _ _⟩
   have:r=[]:=by rw [← h];simp
   subst this
   exact Kd.R_nil _ _ _ _ _
  ·have hH:=holds_of_blockI (ss:=l0) hh (by rw [show l0.length*(Kd.int .i64).sz=l0.length from Nat.mul_one _] at htk;exact htk)
   have hlt:=lt_of_block hh
   refine (AnyM.slices_Sort_int Tryz.sortI g 0 cap l0 w hH hlt hl).mono ?_
   rintro e w' ⟨rfl,n,os,rfl⟩
   have hlen:r.length=l0.length:=by rw [← h];simp
   have hg:w.grownBy (Go.Sort.grow (Go.Sort.putRow (Value.int .i64) (Go.Sort.ahead w n) g 0 (l0.mergeSort fun x y=>decide (x≤y)).toArray) os) (some g):=grownBy_sortedI _
   have hok:P0_ g:=h0 g (by simp [Value.ownBlock])
   refine ⟨rfl,?_,?_,?_⟩
   ·refine ⟨fun k hk=>Or.inl (h0 k hk),r.map (Value.int .i64),?_,reps_of_nums r⟩
    have:=ownsRow_sortedI (w:=w) (n:=n) (os:=os) (base:=w0.heap.size) (g:=g) (cap:=cap) (e:=3) (cur:=cur) (ss:=l0) (ts:=r) hlen hbase hh hle hcap hsz
    rw [hlen,h]
    exact this
   ·exact hB.grown hg hB.size (fun k hk=>by injection hk with hk;omega)
   ·exact Kept.of_grown hg (Kept.refl w _) (fun k hk=>by injection hk with hk;subst hk;exact Or.inl hok)
 ·rw [if_neg hl] at h
  exact absurd h (by simp)
def tabB (l:List Int):List Int:=Lib.compact (l.mergeSort fun x y=>decide (x≤y))
theorem take_map_next {α:Type} (of:S50→α) (l:List S50) (k:Nat) (h:k<l.length):(l.take (k+1)).map of=(l.take k).map of++[of (rd_T50 l (k:Int))]:=by
 rw [List.take_add_one,List.getElem?_eq_getElem h,List.map_append]
 simp [rd_T50,List.getD_eq_getElem?_getD,h]
set_option maxHeartbeats 8000000 in
theorem table_calls (g : Nat) (of : S50 → Int) (eg : ∀ args w, (callFunc g args).run Tryz.prog w = .ok (.enter g args) w) (hof : ∀ (W : World) (x : S50), Calls Tryz.prog g #[.agg #[.int .i64 x.f0, .int .i64 x.f1, .int .i64 x.f2, .int .i64 x.f3]] W fun e w' => e = .returned (.int .i64 (of x)) ∧ Below W.heap.size W w')
  (sz:Int) (A1:Option Addr) (c1:Nat) (v2:Value) (cs:List S50) (w:World) (hr:Kd.C k50 w A1 cs.length cs) (hl:cs.length≤1000000) (h2:v2.oneCell'=true) :
  Calls Tryz.prog 73 #[.agg #[.int .i64 sz,.slice A1 cs.length c1,v2],.func (.func g) #[] #[]] w fun e w'=>∃ v,e = .returned v∧Kd.R (Kd.int .i64) 3 w' w.heap.size (fun _=>True) v (tabB (cs.map of))∧Below w.heap.size w w':=by
 have hu:=Tryz.underlying50
 have hum:=Tryz.underlying25
 have HR:=aK hr
 have HL:=aK hl
 have HOF:=aK hof
 have HB:=aK (below_alloc (Below.refl w.heap.size w) (.cells #[.int .i64 sz,.slice A1 cs.length c1,v2] 25))
 have p0:=(blk_cell (blk_new w (.cells #[.int .i64 sz,.slice A1 cs.length c1,v2] 25)) 1).trans rfl
 clear hr hl hof
 go_enter Tryz.func73,Tryz.ntmps73
 go_wp2
 clear p0
 go_loopg [5,11] cs.length (fun gg s5 s11 wr=>∃ kk:Nat,kk≤cs.length∧cs.length-kk≤gg∧s11 = .int .i64 kk∧Aside0 (Kd.R (Kd.int .i64) 3 wr w.heap.size (fun _=>True) s5 ((cs.take kk).map of))∧Aside0 (Below w.heap.size w wr))
 case atStart=>exact ⟨0,Nat.zero_le _,by omega,rfl,⟨Kd.R_nil _ _ _ _ _⟩,HB⟩
 case round =>
  clear HB
  obtain ⟨kk,hkk,hg,rfl,HO,HB⟩:=hrel
  by_cases hlt:kk<cs.length
  ·have hlti:(kk:Int)<(cs.length:Int):=by omega
   obtain ⟨ad,e1,hx0,hx1,hx2,hx3⟩:=at_T50 HR.out (kk:Int) (by omega) hlti
   replace hx0:=(HB.out.cell (World.block_lt_of_cell? w _ hx0)).trans hx0
   replace hx1:=(HB.out.cell (World.block_lt_of_cell? w _ hx1)).trans hx1
   replace hx2:=(HB.out.cell (World.block_lt_of_cell? w _ hx2)).trans hx2
   replace hx3:=(HB.out.cell (World.block_lt_of_cell? w _ hx3)).trans hx3
   simp only [Int.toNat_natCast] at hx0 hx1 hx2 hx3
   have HN:=aK (take_map_next of cs kk hlt)
   generalize rd_T50 cs (kk:Int)=x at *
   generalize hys:(cs.take (kk+1)).map of=ys at HN
   generalize hxs:(cs.take kk).map of=xs at HO HN
   have HYS:=aK hys
   have HXL:Aside0 (xs.length≤1000000):=⟨by rw [← hxs];simp;have:=HL.out;omega⟩
   have HS:=aK (show w.heap.size≤wr.heap.size from HB.out.size)
   have HB1:=aK (below_alloc HB.out (.cells #[.int .i64 x.f0,.int .i64 x.f1,.int .i64 x.f2,.int .i64 x.f3] 50))
   have hcall:=HOF.out (wr.alloc (.cells #[.int .i64 x.f0,.int .i64 x.f1,.int .i64 x.f2,.int .i64 x.f3] 50)) x
   generalize of x=y at *
   have HW:=aK (show wrap64 ((kk:Int)+1)=((kk+1:Nat):Int) by have:=HL.out;unfold wrap64;omega)
   clear hys hxs
   subst e1
   obtain ⟨A9,c9,rfl⟩:=Kd.R_slice HO.out
   go_wp2_with fail
   refine hcall.mono ?_
   clear hcall
   rintro e w3 ⟨rfl,hb3⟩
   have HO3:=aK (Kd.R_below (Kd.R_alloc HO.out (.cells #[.int .i64 x.f0,.int .i64 x.f1,.int .i64 x.f2,.int .i64 x.f3] 50)) hb3)
   have HB3:=aK (below_step HB1.out hb3)
   clear hx0 hx1 hx2 hx3 hb3
   go_wp2_with ((with_reducible refine gate_builtin (b:=.append) (xs:=#[.tmp 15,.tmp 19]) rfl ?_);at_builtin;refine Kd.R_append_rows (Kd.int .i64) (w0:=w) w.heap.size rfl (.tmp 15) (.tmp 19) 48 3 (.int .i64 0) 8 rfl Tryz.underlying48 info3 rfl (by decide) (by omega) (.slice A9 xs.length c9) xs [y] (some ⟨w3.heap.size,0,none⟩) 1 1 (fun _=>True) (fun _=>False) rfl rfl ?aO ?aR (fun _ _ h=>h) (fun _ h=>h.elim) (fun _ _=>trivial) ?aB ?aS ?aL ?_;(case aO=>exact Kd.R_alloc HO3.out _);(case aR=>exact lit_C w3 3 [y] (by simp));(case aB=>exact below_alloc HB3.out _);(case aS=>have:=HB3.out.size;simp;omega);(case aL=>have:=HXL.out;omega);intro v1 w1 ho hb hg hat;rw [← HN.out] at ho;obtain ⟨A1,c1,rfl⟩:=Kd.R_slice ho;have HO1:=aK ho;have HB4:=aK hb;clear ho hb hg hat)
   go_roundg (cs.length-(kk+1))
   case measure=>omega
   case rel=>exact ⟨kk+1,by omega,by omega,congrArg (Value.int .i64) HW.out,⟨by rw [HYS.out];exact HO1.out⟩,HB4⟩
  ·obtain rfl:kk=cs.length:=by omega
   have hlti : ¬ (cs.length:Int)<(cs.length:Int):=by omega
   have hT:(cs.take cs.length).map of=cs.map of:=by rw [List.take_length]
   rw [hT] at HO
   have HL2:Aside0 ((cs.map of).length≤1000000):=⟨by rw [List.length_map];exact HL.out⟩
   obtain ⟨l,hl⟩ : ∃ l,l=cs.map of:=⟨_,rfl⟩
   have HQ:=aK hl
   rw [← hl] at HO HL2
   clear hT hl
   obtain ⟨A9,c9,rfl⟩:=Kd.R_slice HO.out
   have hms:(l.mergeSort fun x y=>decide (x≤y)).length=l.length:=by simp
   have hs:=slices_Sort_int_int.calls (fun _=>True) (.slice A9 l.length c9) l (l.mergeSort fun x y=>decide (x≤y)) w wr HB.out HO.out (by unfold slices_Sort_int_int.f;rw [if_pos (by have:=HL2.out;omega)])
   have HM:=aK hms
   clear hms
   go_wp2_with fail
   refine hs.mono ?_
   rintro e w3 ⟨rfl,ho3,hb3,-⟩
   have hc:=compactI_calls (.slice A9 l.length c9) _ w w3 hb3 (Kd.R_mono ho3 (fun _ _=>trivial)) (by rw [HM.out];have:=HL2.out;omega)
   clear hs ho3 hb3
   go_wp2_with fail
   refine hc.mono ?_
   rintro e w4 ⟨v,rfl,ho4,hb4⟩
   have HO4:=aK ho4
   have HB4:=aK hb4
   obtain ⟨A8,c8,rfl⟩:=Kd.R_slice ho4
   clear hc ho4 hb4
   go_wp2
   go_ret
   exact ⟨_,rfl,by unfold tabB;rw [← HQ.out];exact HO4.out,HB4.out⟩
end Go.Proofs.YtoemkemmiikhlaaGreat.PF4
