import Derived.Test.YtoemkemmiikhlaaGreatPF4x0
import Derived.Test.YtoemkemmiikhlaaGreatPF4x1
import Derived.Test.YtoemkemmiikhlaaGreatPF4x2
set_option maxRecDepth 100000
namespace Go.Proofs.YtoemkemmiikhlaaGreat.PF4
open Go.RowKit Go.Proofs.YtoemkemmiikhlaaGreatW.PrintWords Go.Proofs.YtoemkemmiikhlaaGreatW.PrintLast Go.Proofs.YtoemkemmiikhlaaGreatW.PrintMore
attribute [local go_sem] max2_int min2_int max_two min_two max_three min_three max_four min_four
set_option linter.unusedVariables false
set_option linter.unusedSimpArgs false
set_option maxHeartbeats 4000000 in
theorem twice_prsC (g : Nat) (cf : S50 → S50 → Int) (eg : ∀ args w, (callFunc g args).run Tryz.prog w = .ok (.enter g args) w) (A0 : Option Addr) (c0 : Nat) (l0 : List S50) (w : World)
  (hp : ∀ (W:World) (x y:S50),Calls Tryz.prog g #[.agg #[.int .i64 x.f0,.int .i64 x.f1,.int .i64 x.f2,.int .i64 x.f3],.agg #[.int .i64 y.f0,.int .i64 y.f1,.int .i64 y.f2,.int .i64 y.f3]] W fun e w'=>e = .returned (.int .i64 (cf x y))∧Below W.heap.size W w')
  (hr0:Kd.C k50 w A0 l0.length l0) (hlen:l0.length≤1000000000000) :
  Calls Tryz.prog 53 #[.slice A0 l0.length c0,.func (.func g) #[] #[]] w fun e w'=>e = .returned (.bool (!(chainB (fun x y=>!(cf x y == 0)) l0)))∧Below w.heap.size w w':=by
 have hu:=Tryz.underlying50
 have HR0:=aK hr0
 have HP:=aK hp
 have HL:=aK hlen
 clear hr0 hp hlen
 have HB:=aK (Below.refl w.heap.size w)
 generalize hT:(fun (x y:S50)=>!(cf x y == 0))=ok
 have HT:=aK hT
 clear hT
 go_enter Tryz.func53,Tryz.ntmps53
 go_wp2
 go_loopg [5] l0.length (fun gg s5 wr=>∃ j kk:Nat,Aside0 (kk=j+1)∧l0.length-kk≤gg∧s5 = .int .i64 kk∧Aside0 (kk≤l0.length+1)∧Aside0 (chainB ok l0=chainB ok (l0.drop j))∧Aside0 (Below w.heap.size w wr))
 case atStart=>exact ⟨0,1,⟨rfl⟩,by omega,rfl,⟨by omega⟩,⟨rfl⟩,HB⟩
 case round =>
  obtain ⟨j,kk,HK,hg,rfl,HKL,HI,HB⟩:=hrel
  by_cases hlt:kk<l0.length
  ·have hlti:(kk:Int)<(l0.length:Int):=by omega
   have hk0:0≤(kk:Int):=by omega
   have hltj:(j:Int)<(l0.length:Int):=by have:=HK.out;omega
   have hj0:0≤(j:Int):=by omega
   have hwj:wrap64 ((kk:Int)-1)=(j:Int):=by have:=HK.out;have:=HL.out;unfold wrap64;omega
   obtain ⟨ad,rfl,hx0,hx1,hx2,hx3⟩:=at_T50 HR0.out (j:Int) (by omega) hltj
   obtain ⟨ad',e',hy0,hy1,hy2,hy3⟩:=at_T50 HR0.out (kk:Int) (by omega) hlti
   obtain rfl:ad=ad':=by injection e'
   simp only [Int.toNat_natCast] at hx0 hx1 hx2 hx3 hy0 hy1 hy2 hy3
   have hI:=HI.out
   rw [rd_dropC l0 j (by omega),rd_dropC l0 (j+1) (by have:=HK.out;omega)] at hI
   have hI2:chainB ok l0=(ok (rd_T50 l0 (j:Int)) (rd_T50 l0 (kk:Int)) && chainB ok (l0.drop (j+1))):=by
    have hk:=HK.out
    subst hk
    rw [hI]
    show (_ && chainB ok (_::_))=_
    rw [← rd_dropC l0 (j+1) hlt]
   have HI2:=aK hI2
   clear hI hI2 HI
   generalize rd_T50 l0 (kk:Int)=y at *
   generalize rd_T50 l0 (j:Int)=x at *
   have P0:=aK (show wr.drew.cell? (ad.add (j*4))=some (.int .i64 x.f0) from (HB.out.cell (World.block_lt_of_cell? w _ hx0)).trans hx0)
   have P1:=aK (show wr.drew.cell? ⟨(ad.add (j*4)).block,(ad.add (j*4)).off+1,none⟩=some (.int .i64 x.f1) from (HB.out.cell (World.block_lt_of_cell? w _ hx1)).trans hx1)
   have P2:=aK (show wr.drew.cell? ⟨(ad.add (j*4)).block,(ad.add (j*4)).off+2,none⟩=some (.int .i64 x.f2) from (HB.out.cell (World.block_lt_of_cell? w _ hx2)).trans hx2)
   have P3:=aK (show wr.drew.cell? ⟨(ad.add (j*4)).block,(ad.add (j*4)).off+3,none⟩=some (.int .i64 x.f3) from (HB.out.cell (World.block_lt_of_cell? w _ hx3)).trans hx3)
   have P4:=aK (show wr.drew.cell? (ad.add (kk*4))=some (.int .i64 y.f0) from (HB.out.cell (World.block_lt_of_cell? w _ hy0)).trans hy0)
   have P5:=aK (show wr.drew.cell? ⟨(ad.add (kk*4)).block,(ad.add (kk*4)).off+1,none⟩=some (.int .i64 y.f1) from (HB.out.cell (World.block_lt_of_cell? w _ hy1)).trans hy1)
   have P6:=aK (show wr.drew.cell? ⟨(ad.add (kk*4)).block,(ad.add (kk*4)).off+2,none⟩=some (.int .i64 y.f2) from (HB.out.cell (World.block_lt_of_cell? w _ hy2)).trans hy2)
   have P7:=aK (show wr.drew.cell? ⟨(ad.add (kk*4)).block,(ad.add (kk*4)).off+3,none⟩=some (.int .i64 y.f3) from (HB.out.cell (World.block_lt_of_cell? w _ hy3)).trans hy3)
   have hcall:=HP.out wr.drew x y
   have hokxy:ok x y=(!(cf x y == 0)):=by rw [← HT.out]
   generalize hv:cf x y=v at *
   have HCALL:=aK hcall
   have HSTEP:=aK (show wrap64 ((kk:Int)+1)=((kk+1:Nat):Int) by have:=HL.out;unfold wrap64;omega)
   clear hx0 hx1 hx2 hx3 hy0 hy1 hy2 hy3 hcall hv e'
   cases hob:ok x y with
   | true =>
    have HOK:Aside0 ((!(v == 0))=true):=⟨by rw [← hokxy];exact hob⟩
    have HI3:Aside0 (chainB ok l0=chainB ok (l0.drop (j+1))):=⟨by rw [HI2.out,hob];rfl⟩
    clear hokxy HI2 hob
    have HV2:Aside0 ((v == 0)=false):=⟨by have:=HOK.out;simpa using this⟩
    have hvb:(v == 0)=false:=HV2.out
    go_wp2
    refine start_ (n:=12) (S:=fun w'=>w'.cell? (ad.add (j*4))=some (.int .i64 x.f0)∧w'.cell? ⟨(ad.add (j*4)).block,(ad.add (j*4)).off+1,none⟩=some (.int .i64 x.f1)∧w'.cell? ⟨(ad.add (j*4)).block,(ad.add (j*4)).off+2,none⟩=some (.int .i64 x.f2)∧w'.cell? ⟨(ad.add (j*4)).block,(ad.add (j*4)).off+3,none⟩=some (.int .i64 x.f3)∧w'.cell? (ad.add (kk*4))=some (.int .i64 y.f0)∧w'.cell? ⟨(ad.add (kk*4)).block,(ad.add (kk*4)).off+1,none⟩=some (.int .i64 y.f1)∧w'.cell? ⟨(ad.add (kk*4)).block,(ad.add (kk*4)).off+2,none⟩=some (.int .i64 y.f2)∧w'.cell? ⟨(ad.add (kk*4)).block,(ad.add (kk*4)).off+3,none⟩=some (.int .i64 y.f3)) (ds:=[10]) #[false,false,false,false,false,false,false,false,false,false,false,false] (by kernel_rfl) rfl rfl ⟨P0.out,P1.out,P2.out,P3.out,P4.out,P5.out,P6.out,P7.out⟩ (fun hHeld=>?_)
    refine pu 0 (some 12) ?_ rfl rfl (by kernel_rfl) (fun _ _ _ h=>h) (.inl ⟨by rfl,?_⟩) ?_ ?_ ?_;rotate_left;intro w';go_simp;with_reducible rfl;rotate_left;simp only [nS];rfl
    refine pu 1 (some 13) ?_ rfl rfl (by kernel_rfl) (fun _ _ _ h=>h) (.inl ⟨by rfl,?_⟩) ?_ ?_ ?_;rotate_left;intro w';go_simp;with_reducible rfl;rotate_left;simp only [nS];rfl
    refine pu 2 (some 14) ?_ rfl rfl (by kernel_rfl) (fun _ _ _ h=>h) (.inl ⟨by rfl,?_⟩) ?_ ?_ ?_;rotate_left;intro w';go_simp;with_reducible rfl;rotate_left;simp only [nS];rfl
    refine pu 3 (some 15) ?_ rfl rfl (by kernel_rfl) (fun _ _ _ h=>h) (.inl ⟨by rfl,?_⟩) ?_ ?_ ?_;rotate_left;intro w';go_simp;with_reducible rfl;rotate_left;simp only [nS];rfl
    refine pu 4 (some 16) ?_ rfl rfl (by kernel_rfl) (fun _ _ _ h=>h) (.inl ⟨by rfl,?_⟩) ?_ ?_ ?_;rotate_left;intro w';go_simp;with_reducible rfl;rotate_left;simp only [nS];rfl
    refine pu 6 (some 18) ?_ rfl rfl (by kernel_rfl) (fun _ _ _ h=>h) (.inl ⟨by rfl,?_⟩) ?_ ?_ ?_;rotate_left;intro w';go_simp;with_reducible rfl;rotate_left;simp only [nS];rfl
    refine pu 7 (some 19) ?_ rfl rfl (by kernel_rfl) (fun _ _ _ h=>h) (.inl ⟨by rfl,?_⟩) ?_ ?_ ?_;rotate_left;intro w';go_simp;with_reducible rfl;rotate_left;simp only [nS];rfl
    refine pu 8 (some 20) ?_ rfl rfl (by kernel_rfl) (fun _ _ _ h=>h) (.inl ⟨by rfl,?_⟩) ?_ ?_ ?_;rotate_left;intro w';go_simp;with_reducible rfl;rotate_left;simp only [nS];rfl
    refine tk 5 (some 17) ?_ rfl rfl (by kernel_rfl) (fun _ _ _ h=>h) (.inl ⟨by rfl,?_⟩) hHeld ?_ ?_ ?_;rotate_left;rintro w' ⟨s0,s1,s2,s3,s4,s5,s6,s7⟩;go_simp;with_reducible rfl;rotate_left;simp only [nS];rfl
    refine tk 9 (some 21) ?_ rfl rfl (by kernel_rfl) (fun _ _ _ h=>h) (.inl ⟨by rfl,?_⟩) hHeld ?_ ?_ ?_;rotate_left;rintro w' ⟨s0,s1,s2,s3,s4,s5,s6,s7⟩;go_simp;with_reducible rfl;rotate_left;simp only [nS];rfl
    refine last_ (i:=10) (N:=some 22) #[true,true,true,true,true,true,true,true,true,true,true,false] rfl rfl (by kernel_rfl) (by decide) (fun K hK=>?_)
    refine goesv_ #[] #[.agg #[.int .i64 x.f0,.int .i64 x.f1,.int .i64 x.f2,.int .i64 x.f3],.agg #[.int .i64 y.f0,.int .i64 y.f1,.int .i64 y.f2,.int .i64 y.f3]] eg (by rfl) rfl rfl (by rfl) (by simp only [List.map_toArray,List.map_cons,List.map_nil];rfl) ?_
    refine HCALL.out.mono ?_
    rintro e w3 ⟨rfl,hk3⟩
    refine ⟨_,rfl,?_⟩
    refine hK.out _ _ ?_
    clear hK K
    refine norm_ (a':=?_) ?_ ?_;rotate_left;show Act.put _ (some 22) _=_;simp only [nS];rfl
    refine pu 11 (some 23) ?_ rfl rfl (by kernel_rfl) (fun _ _ _ h=>h) (.inl ⟨by rfl,?_⟩) ?_ ?_ ?_;rotate_left;intro w';go_simp;with_reducible rfl;rotate_left;simp only [nS];rfl
    refine done_ (by kernel_rfl) ?_
    have HB3:=aK (below_step (below_drew1 HB.out) hk3)
    clear hk3
    go_wp2
    go_roundg (l0.length-(kk+1))
    case measure=>omega
    case rel=>exact ⟨j+1,kk+1,⟨by rw [HK.out]⟩,by omega,congrArg (Value.int .i64) HSTEP.out,⟨by omega⟩,HI3,HB3⟩
   | false =>
    have HOK:Aside0 ((!(v == 0))=false):=⟨by rw [← hokxy];exact hob⟩
    have HI3:Aside0 (chainB ok l0=false):=⟨by rw [HI2.out,hob];rfl⟩
    clear hokxy HI2 hob
    have HV2:Aside0 ((v == 0)=true):=⟨by have:=HOK.out;simpa using this⟩
    have hvb:(v == 0)=true:=HV2.out
    go_wp2
    refine start_ (n:=12) (S:=fun w'=>w'.cell? (ad.add (j*4))=some (.int .i64 x.f0)∧w'.cell? ⟨(ad.add (j*4)).block,(ad.add (j*4)).off+1,none⟩=some (.int .i64 x.f1)∧w'.cell? ⟨(ad.add (j*4)).block,(ad.add (j*4)).off+2,none⟩=some (.int .i64 x.f2)∧w'.cell? ⟨(ad.add (j*4)).block,(ad.add (j*4)).off+3,none⟩=some (.int .i64 x.f3)∧w'.cell? (ad.add (kk*4))=some (.int .i64 y.f0)∧w'.cell? ⟨(ad.add (kk*4)).block,(ad.add (kk*4)).off+1,none⟩=some (.int .i64 y.f1)∧w'.cell? ⟨(ad.add (kk*4)).block,(ad.add (kk*4)).off+2,none⟩=some (.int .i64 y.f2)∧w'.cell? ⟨(ad.add (kk*4)).block,(ad.add (kk*4)).off+3,none⟩=some (.int .i64 y.f3)) (ds:=[10]) #[false,false,false,false,false,false,false,false,false,false,false,false] (by kernel_rfl) rfl rfl ⟨P0.out,P1.out,P2.out,P3.out,P4.out,P5.out,P6.out,P7.out⟩ (fun hHeld=>?_)
    refine pu 0 (some 12) ?_ rfl rfl (by kernel_rfl) (fun _ _ _ h=>h) (.inl ⟨by rfl,?_⟩) ?_ ?_ ?_;rotate_left;intro w';go_simp;with_reducible rfl;rotate_left;simp only [nS];rfl
    refine pu 1 (some 13) ?_ rfl rfl (by kernel_rfl) (fun _ _ _ h=>h) (.inl ⟨by rfl,?_⟩) ?_ ?_ ?_;rotate_left;intro w';go_simp;with_reducible rfl;rotate_left;simp only [nS];rfl
    refine pu 2 (some 14) ?_ rfl rfl (by kernel_rfl) (fun _ _ _ h=>h) (.inl ⟨by rfl,?_⟩) ?_ ?_ ?_;rotate_left;intro w';go_simp;with_reducible rfl;rotate_left;simp only [nS];rfl
    refine pu 3 (some 15) ?_ rfl rfl (by kernel_rfl) (fun _ _ _ h=>h) (.inl ⟨by rfl,?_⟩) ?_ ?_ ?_;rotate_left;intro w';go_simp;with_reducible rfl;rotate_left;simp only [nS];rfl
    refine pu 4 (some 16) ?_ rfl rfl (by kernel_rfl) (fun _ _ _ h=>h) (.inl ⟨by rfl,?_⟩) ?_ ?_ ?_;rotate_left;intro w';go_simp;with_reducible rfl;rotate_left;simp only [nS];rfl
    refine pu 6 (some 18) ?_ rfl rfl (by kernel_rfl) (fun _ _ _ h=>h) (.inl ⟨by rfl,?_⟩) ?_ ?_ ?_;rotate_left;intro w';go_simp;with_reducible rfl;rotate_left;simp only [nS];rfl
    refine pu 7 (some 19) ?_ rfl rfl (by kernel_rfl) (fun _ _ _ h=>h) (.inl ⟨by rfl,?_⟩) ?_ ?_ ?_;rotate_left;intro w';go_simp;with_reducible rfl;rotate_left;simp only [nS];rfl
    refine pu 8 (some 20) ?_ rfl rfl (by kernel_rfl) (fun _ _ _ h=>h) (.inl ⟨by rfl,?_⟩) ?_ ?_ ?_;rotate_left;intro w';go_simp;with_reducible rfl;rotate_left;simp only [nS];rfl
    refine tk 5 (some 17) ?_ rfl rfl (by kernel_rfl) (fun _ _ _ h=>h) (.inl ⟨by rfl,?_⟩) hHeld ?_ ?_ ?_;rotate_left;rintro w' ⟨s0,s1,s2,s3,s4,s5,s6,s7⟩;go_simp;with_reducible rfl;rotate_left;simp only [nS];rfl
    refine tk 9 (some 21) ?_ rfl rfl (by kernel_rfl) (fun _ _ _ h=>h) (.inl ⟨by rfl,?_⟩) hHeld ?_ ?_ ?_;rotate_left;rintro w' ⟨s0,s1,s2,s3,s4,s5,s6,s7⟩;go_simp;with_reducible rfl;rotate_left;simp only [nS];rfl
    refine last_ (i:=10) (N:=some 22) #[true,true,true,true,true,true,true,true,true,true,true,false] rfl rfl (by kernel_rfl) (by decide) (fun K hK=>?_)
    refine goesv_ #[] #[.agg #[.int .i64 x.f0,.int .i64 x.f1,.int .i64 x.f2,.int .i64 x.f3],.agg #[.int .i64 y.f0,.int .i64 y.f1,.int .i64 y.f2,.int .i64 y.f3]] eg (by rfl) rfl rfl (by rfl) (by simp only [List.map_toArray,List.map_cons,List.map_nil];rfl) ?_
    refine HCALL.out.mono ?_
    rintro e w3 ⟨rfl,hk3⟩
    refine ⟨_,rfl,?_⟩
    refine hK.out _ _ ?_
    clear hK K
    refine norm_ (a':=?_) ?_ ?_;rotate_left;show Act.put _ (some 22) _=_;simp only [nS];rfl
    refine pu 11 (some 23) ?_ rfl rfl (by kernel_rfl) (fun _ _ _ h=>h) (.inl ⟨by rfl,?_⟩) ?_ ?_ ?_;rotate_left;intro w';go_simp;with_reducible rfl;rotate_left;simp only [nS];rfl
    refine done_ (by kernel_rfl) ?_
    have HB3:=aK (below_step (below_drew1 HB.out) hk3)
    clear hk3
    go_wp2
    go_ret
    exact ⟨by rw [HI3.out];rfl,HB3.out⟩
  ·have hlti : ¬ (kk:Int)<(l0.length:Int):=by omega
   have HI3:Aside0 (chainB ok l0=true):=⟨by rw [HI.out];exact chainB_short _ (by have:=HK.out;simp;omega)⟩
   clear HI
   go_wp2
   go_ret
   exact ⟨by rw [HI3.out];rfl,HB.out⟩
set_option maxHeartbeats 4000000 in
theorem twice_prsR (g : Nat) (cf : S45 → S45 → Int) (eg : ∀ args w, (callFunc g args).run Tryz.prog w = .ok (.enter g args) w) (A0 : Option Addr) (c0 : Nat) (l0 : List S45) (w : World)
  (hp : ∀ (W:World) (x y:S45),Calls Tryz.prog g #[.agg #[.int .i64 x.f0,.int .i64 x.f1,.int .i64 x.f2,.int .i64 x.f3],.agg #[.int .i64 y.f0,.int .i64 y.f1,.int .i64 y.f2,.int .i64 y.f3]] W fun e w'=>e = .returned (.int .i64 (cf x y))∧Below W.heap.size W w')
  (hr0:Kd.C k45 w A0 l0.length l0) (hlen:l0.length≤1000000000000) :
  Calls Tryz.prog 54 #[.slice A0 l0.length c0,.func (.func g) #[] #[]] w fun e w'=>e = .returned (.bool (!(chainB (fun x y=>!(cf x y == 0)) l0)))∧Below w.heap.size w w':=by
 have hu:=Tryz.underlying45
 have HR0:=aK hr0
 have HP:=aK hp
 have HL:=aK hlen
 clear hr0 hp hlen
 have HB:=aK (Below.refl w.heap.size w)
 generalize hT:(fun (x y:S45)=>!(cf x y == 0))=ok
 have HT:=aK hT
 clear hT
 go_enter Tryz.func54,Tryz.ntmps54
 go_wp2
 go_loopg [5] l0.length (fun gg s5 wr=>∃ j kk:Nat,Aside0 (kk=j+1)∧l0.length-kk≤gg∧s5 = .int .i64 kk∧Aside0 (kk≤l0.length+1)∧Aside0 (chainB ok l0=chainB ok (l0.drop j))∧Aside0 (Below w.heap.size w wr))
 case atStart=>exact ⟨0,1,⟨rfl⟩,by omega,rfl,⟨by omega⟩,⟨rfl⟩,HB⟩
 case round =>
  obtain ⟨j,kk,HK,hg,rfl,HKL,HI,HB⟩:=hrel
  by_cases hlt:kk<l0.length
  ·have hlti:(kk:Int)<(l0.length:Int):=by omega
   have hk0:0≤(kk:Int):=by omega
   have hltj:(j:Int)<(l0.length:Int):=by have:=HK.out;omega
   have hj0:0≤(j:Int):=by omega
   have hwj:wrap64 ((kk:Int)-1)=(j:Int):=by have:=HK.out;have:=HL.out;unfold wrap64;omega
   obtain ⟨ad,rfl,hx0,hx1,hx2,hx3⟩:=at_T45 HR0.out (j:Int) (by omega) hltj
   obtain ⟨ad',e',hy0,hy1,hy2,hy3⟩:=at_T45 HR0.out (kk:Int) (by omega) hlti
   obtain rfl:ad=ad':=by injection e'
   simp only [Int.toNat_natCast] at hx0 hx1 hx2 hx3 hy0 hy1 hy2 hy3
   have hI:=HI.out
   rw [rd_dropR l0 j (by omega),rd_dropR l0 (j+1) (by have:=HK.out;omega)] at hI
   have hI2:chainB ok l0=(ok (rd_T45 l0 (j:Int)) (rd_T45 l0 (kk:Int)) && chainB ok (l0.drop (j+1))):=by
    have hk:=HK.out
    subst hk
    rw [hI]
    show (_ && chainB ok (_::_))=_
    rw [← rd_dropR l0 (j+1) hlt]
   have HI2:=aK hI2
   clear hI hI2 HI
   generalize rd_T45 l0 (kk:Int)=y at *
   generalize rd_T45 l0 (j:Int)=x at *
   have P0:=aK (show wr.drew.cell? (ad.add (j*4))=some (.int .i64 x.f0) from (HB.out.cell (World.block_lt_of_cell? w _ hx0)).trans hx0)
   have P1:=aK (show wr.drew.cell? ⟨(ad.add (j*4)).block,(ad.add (j*4)).off+1,none⟩=some (.int .i64 x.f1) from (HB.out.cell (World.block_lt_of_cell? w _ hx1)).trans hx1)
   have P2:=aK (show wr.drew.cell? ⟨(ad.add (j*4)).block,(ad.add (j*4)).off+2,none⟩=some (.int .i64 x.f2) from (HB.out.cell (World.block_lt_of_cell? w _ hx2)).trans hx2)
   have P3:=aK (show wr.drew.cell? ⟨(ad.add (j*4)).block,(ad.add (j*4)).off+3,none⟩=some (.int .i64 x.f3) from (HB.out.cell (World.block_lt_of_cell? w _ hx3)).trans hx3)
   have P4:=aK (show wr.drew.cell? (ad.add (kk*4))=some (.int .i64 y.f0) from (HB.out.cell (World.block_lt_of_cell? w _ hy0)).trans hy0)
   have P5:=aK (show wr.drew.cell? ⟨(ad.add (kk*4)).block,(ad.add (kk*4)).off+1,none⟩=some (.int .i64 y.f1) from (HB.out.cell (World.block_lt_of_cell? w _ hy1)).trans hy1)
   have P6:=aK (show wr.drew.cell? ⟨(ad.add (kk*4)).block,(ad.add (kk*4)).off+2,none⟩=some (.int .i64 y.f2) from (HB.out.cell (World.block_lt_of_cell? w _ hy2)).trans hy2)
   have P7:=aK (show wr.drew.cell? ⟨(ad.add (kk*4)).block,(ad.add (kk*4)).off+3,none⟩=some (.int .i64 y.f3) from (HB.out.cell (World.block_lt_of_cell? w _ hy3)).trans hy3)
   have hcall:=HP.out wr.drew x y
   have hokxy:ok x y=(!(cf x y == 0)):=by rw [← HT.out]
   generalize hv:cf x y=v at *
   have HCALL:=aK hcall
   have HSTEP:=aK (show wrap64 ((kk:Int)+1)=((kk+1:Nat):Int) by have:=HL.out;unfold wrap64;omega)
   clear hx0 hx1 hx2 hx3 hy0 hy1 hy2 hy3 hcall hv e'
   cases hob:ok x y with
   | true =>
    have HOK:Aside0 ((!(v == 0))=true):=⟨by rw [← hokxy];exact hob⟩
    have HI3:Aside0 (chainB ok l0=chainB ok (l0.drop (j+1))):=⟨by rw [HI2.out,hob];rfl⟩
    clear hokxy HI2 hob
    have HV2:Aside0 ((v == 0)=false):=⟨by have:=HOK.out;simpa using this⟩
    have hvb:(v == 0)=false:=HV2.out
    go_wp2
    refine start_ (n:=12) (S:=fun w'=>w'.cell? (ad.add (j*4))=some (.int .i64 x.f0)∧w'.cell? ⟨(ad.add (j*4)).block,(ad.add (j*4)).off+1,none⟩=some (.int .i64 x.f1)∧w'.cell? ⟨(ad.add (j*4)).block,(ad.add (j*4)).off+2,none⟩=some (.int .i64 x.f2)∧w'.cell? ⟨(ad.add (j*4)).block,(ad.add (j*4)).off+3,none⟩=some (.int .i64 x.f3)∧w'.cell? (ad.add (kk*4))=some (.int .i64 y.f0)∧w'.cell? ⟨(ad.add (kk*4)).block,(ad.add (kk*4)).off+1,none⟩=some (.int .i64 y.f1)∧w'.cell? ⟨(ad.add (kk*4)).block,(ad.add (kk*4)).off+2,none⟩=some (.int .i64 y.f2)∧w'.cell? ⟨(ad.add (kk*4)).block,(ad.add (kk*4)).off+3,none⟩=some (.int .i64 y.f3)) (ds:=[10]) #[false,false,false,false,false,false,false,false,false,false,false,false] (by kernel_rfl) rfl rfl ⟨P0.out,P1.out,P2.out,P3.out,P4.out,P5.out,P6.out,P7.out⟩ (fun hHeld=>?_)
    refine pu 0 (some 12) ?_ rfl rfl (by kernel_rfl) (fun _ _ _ h=>h) (.inl ⟨by rfl,?_⟩) ?_ ?_ ?_;rotate_left;intro w';go_simp;with_reducible rfl;rotate_left;simp only [nS];rfl
    refine pu 1 (some 13) ?_ rfl rfl (by kernel_rfl) (fun _ _ _ h=>h) (.inl ⟨by rfl,?_⟩) ?_ ?_ ?_;rotate_left;intro w';go_simp;with_reducible rfl;rotate_left;simp only [nS];rfl
    refine pu 2 (some 14) ?_ rfl rfl (by kernel_rfl) (fun _ _ _ h=>h) (.inl ⟨by rfl,?_⟩) ?_ ?_ ?_;rotate_left;intro w';go_simp;with_reducible rfl;rotate_left;simp only [nS];rfl
    refine pu 3 (some 15) ?_ rfl rfl (by kernel_rfl) (fun _ _ _ h=>h) (.inl ⟨by rfl,?_⟩) ?_ ?_ ?_;rotate_left;intro w';go_simp;with_reducible rfl;rotate_left;simp only [nS];rfl
    refine pu 4 (some 16) ?_ rfl rfl (by kernel_rfl) (fun _ _ _ h=>h) (.inl ⟨by rfl,?_⟩) ?_ ?_ ?_;rotate_left;intro w';go_simp;with_reducible rfl;rotate_left;simp only [nS];rfl
    refine pu 6 (some 18) ?_ rfl rfl (by kernel_rfl) (fun _ _ _ h=>h) (.inl ⟨by rfl,?_⟩) ?_ ?_ ?_;rotate_left;intro w';go_simp;with_reducible rfl;rotate_left;simp only [nS];rfl
    refine pu 7 (some 19) ?_ rfl rfl (by kernel_rfl) (fun _ _ _ h=>h) (.inl ⟨by rfl,?_⟩) ?_ ?_ ?_;rotate_left;intro w';go_simp;with_reducible rfl;rotate_left;simp only [nS];rfl
    refine pu 8 (some 20) ?_ rfl rfl (by kernel_rfl) (fun _ _ _ h=>h) (.inl ⟨by rfl,?_⟩) ?_ ?_ ?_;rotate_left;intro w';go_simp;with_reducible rfl;rotate_left;simp only [nS];rfl
    refine tk 5 (some 17) ?_ rfl rfl (by kernel_rfl) (fun _ _ _ h=>h) (.inl ⟨by rfl,?_⟩) hHeld ?_ ?_ ?_;rotate_left;rintro w' ⟨s0,s1,s2,s3,s4,s5,s6,s7⟩;go_simp;with_reducible rfl;rotate_left;simp only [nS];rfl
    refine tk 9 (some 21) ?_ rfl rfl (by kernel_rfl) (fun _ _ _ h=>h) (.inl ⟨by rfl,?_⟩) hHeld ?_ ?_ ?_;rotate_left;rintro w' ⟨s0,s1,s2,s3,s4,s5,s6,s7⟩;go_simp;with_reducible rfl;rotate_left;simp only [nS];rfl
    refine last_ (i:=10) (N:=some 22) #[true,true,true,true,true,true,true,true,true,true,true,false] rfl rfl (by kernel_rfl) (by decide) (fun K hK=>?_)
    refine goesv_ #[] #[.agg #[.int .i64 x.f0,.int .i64 x.f1,.int .i64 x.f2,.int .i64 x.f3],.agg #[.int .i64 y.f0,.int .i64 y.f1,.int .i64 y.f2,.int .i64 y.f3]] eg (by rfl) rfl rfl (by rfl) (by simp only [List.map_toArray,List.map_cons,List.map_nil];rfl) ?_
    refine HCALL.out.mono ?_
    rintro e w3 ⟨rfl,hk3⟩
    refine ⟨_,rfl,?_⟩
    refine hK.out _ _ ?_
    clear hK K
    refine norm_ (a':=?_) ?_ ?_;rotate_left;show Act.put _ (some 22) _=_;simp only [nS];rfl
    refine pu 11 (some 23) ?_ rfl rfl (by kernel_rfl) (fun _ _ _ h=>h) (.inl ⟨by rfl,?_⟩) ?_ ?_ ?_;rotate_left;intro w';go_simp;with_reducible rfl;rotate_left;simp only [nS];rfl
    refine done_ (by kernel_rfl) ?_
    have HB3:=aK (below_step (below_drew1 HB.out) hk3)
    clear hk3
    go_wp2
    go_roundg (l0.length-(kk+1))
    case measure=>omega
    case rel=>exact ⟨j+1,kk+1,⟨by rw [HK.out]⟩,by omega,congrArg (Value.int .i64) HSTEP.out,⟨by omega⟩,HI3,HB3⟩
   | false =>
    have HOK:Aside0 ((!(v == 0))=false):=⟨by rw [← hokxy];exact hob⟩
    have HI3:Aside0 (chainB ok l0=false):=⟨by rw [HI2.out,hob];rfl⟩
    clear hokxy HI2 hob
    have HV2:Aside0 ((v == 0)=true):=⟨by have:=HOK.out;simpa using this⟩
    have hvb:(v == 0)=true:=HV2.out
    go_wp2
    refine start_ (n:=12) (S:=fun w'=>w'.cell? (ad.add (j*4))=some (.int .i64 x.f0)∧w'.cell? ⟨(ad.add (j*4)).block,(ad.add (j*4)).off+1,none⟩=some (.int .i64 x.f1)∧w'.cell? ⟨(ad.add (j*4)).block,(ad.add (j*4)).off+2,none⟩=some (.int .i64 x.f2)∧w'.cell? ⟨(ad.add (j*4)).block,(ad.add (j*4)).off+3,none⟩=some (.int .i64 x.f3)∧w'.cell? (ad.add (kk*4))=some (.int .i64 y.f0)∧w'.cell? ⟨(ad.add (kk*4)).block,(ad.add (kk*4)).off+1,none⟩=some (.int .i64 y.f1)∧w'.cell? ⟨(ad.add (kk*4)).block,(ad.add (kk*4)).off+2,none⟩=some (.int .i64 y.f2)∧w'.cell? ⟨(ad.add (kk*4)).block,(ad.add (kk*4)).off+3,none⟩=some (.int .i64 y.f3)) (ds:=[10]) #[false,false,false,false,false,false,false,false,false,false,false,false] (by kernel_rfl) rfl rfl ⟨P0.out,P1.out,P2.out,P3.out,P4.out,P5.out,P6.out,P7.out⟩ (fun hHeld=>?_)
    refine pu 0 (some 12) ?_ rfl rfl (by kernel_rfl) (fun _ _ _ h=>h) (.inl ⟨by rfl,?_⟩) ?_ ?_ ?_;rotate_left;intro w';go_simp;with_reducible rfl;rotate_left;simp only [nS];rfl
    refine pu 1 (some 13) ?_ rfl rfl (by kernel_rfl) (fun _ _ _ h=>h) (.inl ⟨by rfl,?_⟩) ?_ ?_ ?_;rotate_left;intro w';go_simp;with_reducible rfl;rotate_left;simp only [nS];rfl
    refine pu 2 (some 14) ?_ rfl rfl (by kernel_rfl) (fun _ _ _ h=>h) (.inl ⟨by rfl,?_⟩) ?_ ?_ ?_;rotate_left;intro w';go_simp;with_reducible rfl;rotate_left;simp only [nS];rfl
    refine pu 3 (some 15) ?_ rfl rfl (by kernel_rfl) (fun _ _ _ h=>h) (.inl ⟨by rfl,?_⟩) ?_ ?_ ?_;rotate_left;intro w';go_simp;with_reducible rfl;rotate_left;simp only [nS];rfl
    refine pu 4 (some 16) ?_ rfl rfl (by kernel_rfl) (fun _ _ _ h=>h) (.inl ⟨by rfl,?_⟩) ?_ ?_ ?_;rotate_left;intro w';go_simp;with_reducible rfl;rotate_left;simp only [nS];rfl
    refine pu 6 (some 18) ?_ rfl rfl (by kernel_rfl) (fun _ _ _ h=>h) (.inl ⟨by rfl,?_⟩) ?_ ?_ ?_;rotate_left;intro w';go_simp;with_reducible rfl;rotate_left;simp only [nS];rfl
    refine pu 7 (some 19) ?_ rfl rfl (by kernel_rfl) (fun _ _ _ h=>h) (.inl ⟨by rfl,?_⟩) ?_ ?_ ?_;rotate_left;intro w';go_simp;with_reducible rfl;rotate_left;simp only [nS];rfl
    refine pu 8 (some 20) ?_ rfl rfl (by kernel_rfl) (fun _ _ _ h=>h) (.inl ⟨by rfl,?_⟩) ?_ ?_ ?_;rotate_left;intro w';go_simp;with_reducible rfl;rotate_left;simp only [nS];rfl
    refine tk 5 (some 17) ?_ rfl rfl (by kernel_rfl) (fun _ _ _ h=>h) (.inl ⟨by rfl,?_⟩) hHeld ?_ ?_ ?_;rotate_left;rintro w' ⟨s0,s1,s2,s3,s4,s5,s6,s7⟩;go_simp;with_reducible rfl;rotate_left;simp only [nS];rfl
    refine tk 9 (some 21) ?_ rfl rfl (by kernel_rfl) (fun _ _ _ h=>h) (.inl ⟨by rfl,?_⟩) hHeld ?_ ?_ ?_;rotate_left;rintro w' ⟨s0,s1,s2,s3,s4,s5,s6,s7⟩;go_simp;with_reducible rfl;rotate_left;simp only [nS];rfl
    refine last_ (i:=10) (N:=some 22) #[true,true,true,true,true,true,true,true,true,true,true,false] rfl rfl (by kernel_rfl) (by decide) (fun K hK=>?_)
    refine goesv_ #[] #[.agg #[.int .i64 x.f0,.int .i64 x.f1,.int .i64 x.f2,.int .i64 x.f3],.agg #[.int .i64 y.f0,.int .i64 y.f1,.int .i64 y.f2,.int .i64 y.f3]] eg (by rfl) rfl rfl (by rfl) (by simp only [List.map_toArray,List.map_cons,List.map_nil];rfl) ?_
    refine HCALL.out.mono ?_
    rintro e w3 ⟨rfl,hk3⟩
    refine ⟨_,rfl,?_⟩
    refine hK.out _ _ ?_
    clear hK K
    refine norm_ (a':=?_) ?_ ?_;rotate_left;show Act.put _ (some 22) _=_;simp only [nS];rfl
    refine pu 11 (some 23) ?_ rfl rfl (by kernel_rfl) (fun _ _ _ h=>h) (.inl ⟨by rfl,?_⟩) ?_ ?_ ?_;rotate_left;intro w';go_simp;with_reducible rfl;rotate_left;simp only [nS];rfl
    refine done_ (by kernel_rfl) ?_
    have HB3:=aK (below_step (below_drew1 HB.out) hk3)
    clear hk3
    go_wp2
    go_ret
    exact ⟨by rw [HI3.out];rfl,HB3.out⟩
  ·have hlti : ¬ (kk:Int)<(l0.length:Int):=by omega
   have HI3:Aside0 (chainB ok l0=true):=⟨by rw [HI.out];exact chainB_short _ (by have:=HK.out;simp;omega)⟩
   clear HI
   go_wp2
   go_ret
   exact ⟨by rw [HI3.out];rfl,HB.out⟩
end Go.Proofs.YtoemkemmiikhlaaGreat.PF4
