import Derived.Test.YtckjlckhjcbddaaPH3x0
import Derived.Test.YtckjlckhjcbddaaPH3x2
import Derived.Test.YtckjlckhjcbddaaPH3x3
import Derived.Test.YtckjlckhjcbddaaPH3x4
set_option maxRecDepth 100000
namespace Go.Proofs.Ytckjlckhjcbddaa.PH3
open Go.RowKit Go.Proofs.YtckjlckhjcbddaaW.PrintWords Go.Proofs.YtckjlckhjcbddaaW.PrintLast Go.Proofs.YtckjlckhjcbddaaW.PrintMore
attribute [local go_sem] max2_int min2_int max_two min_two max_three min_three max_four min_four
set_option linter.unusedVariables false
set_option linter.unusedSimpArgs false
attribute [local go_sem high] eqA36
def signV (a b p:S31):Int:=(wind_Sign.f a.f0 a.f1 b.f0 b.f1 p.f0 p.f1).getD 0
theorem sign_some (a b p:S31):wind_Sign.f a.f0 a.f1 b.f0 b.f1 p.f0 p.f1=some (signV a b p):=by
 unfold signV wind_Sign.f
 rw [compare_int]
 rfl
def nxt (l:List S31) (i:Nat):S31:=rd_T31 l (((i+1) % l.length:Nat):Int)
def edgeV (a b:S31):Value:=.agg #[.int .i64 a.f0,.int .i64 a.f1,.int .i64 b.f0,.int .i64 b.f1]
set_option maxHeartbeats 2000000 in
theorem Edges_calls (g : Nat) (lb : Array Value) (I : Nat → World → Prop) (eg : ∀ args w, (callFunc g args).run Try.prog w = .ok (.enter g args) w) (A0 : Option Addr) (c0 : Nat) (l0 : List S31) (w0 w : World)
  (hI : ∀ (i:Nat) (W:World),i<l0.length→I i W→Calls Try.prog g (#[edgeV (rd_T31 l0 (i:Int)) (nxt l0 i)]++lb) W fun e w'=>e = .returned (.tuple #[])∧I (i+1) w')
  (hB : ∀ (i:Nat) (W:World),I i W→Below w0.heap.size w0 W) (hA : ∀ (i:Nat) (W:World) (o:Obj),I i W→I i (W.alloc o)) (hD : ∀ (i:Nat) (W:World) (n:Nat),I i W→I i (W.drewN n))
  (h0:I 0 w) (hr0:Kd.C k31 w0 A0 l0.length l0) (hlen:l0.length≤1000000000) :
  Calls Try.prog 25 #[.slice A0 l0.length c0,.func (.func g) #[] lb] w fun e w'=>e = .returned (.tuple #[])∧I l0.length w':=by
 have hu:=Try.underlying31
 have HR0:=aK hr0
 have HI:=aK hI
 have HBB:=aK hB
 have HA:=aK hA
 have HD:=aK hD
 have H0:=aK h0
 clear hr0 hI hB hA hD h0
 go_enter Try.func25,Try.ntmps25
 go_wp2
 go_loopg [8] l0.length (fun gg s8 wr=>∃ kk:Nat,kk≤l0.length∧l0.length-kk≤gg∧s8 = .int .i64 kk∧Aside0 (I kk wr))
 case atStart=>exact ⟨0,Nat.zero_le _,by omega,rfl,H0⟩
 case round =>
  clear H0
  obtain ⟨kk,hkk,hg,rfl,HK⟩:=hrel
  by_cases hlt:kk<l0.length
  ·have hlti:(kk:Int)<(l0.length:Int):=by omega
   obtain ⟨ad,rfl,hx0,hx1⟩:=at_T31 HR0.out (kk:Int) (by omega) hlti
   obtain ⟨j,hj⟩ : ∃ j:Nat,(kk+1) % l0.length=j:=⟨_,rfl⟩
   have hjl:j<l0.length:=by have:=Nat.mod_lt (kk+1) (show 0<l0.length by omega);omega
   have hji:(j:Int)<(l0.length:Int):=by omega
   obtain ⟨ad',e',hy0,hy1⟩:=at_T31 HR0.out (j:Int) (by omega) hji
   obtain rfl:ad=ad':=by injection e'
   clear e'
   have hb:=HBB.out kk wr HK.out
   replace hx0:=(hb.cell (World.block_lt_of_cell? w0 _ hx0)).trans hx0
   replace hx1:=(hb.cell (World.block_lt_of_cell? w0 _ hx1)).trans hx1
   replace hy0:=(hb.cell (World.block_lt_of_cell? w0 _ hy0)).trans hy0
   replace hy1:=(hb.cell (World.block_lt_of_cell? w0 _ hy1)).trans hy1
   have hcall:=fun W h=>HI.out kk W hlt h
   simp only [Int.toNat_natCast] at hx0 hx1 hy0 hy1
   simp only [nxt,hj] at hcall
   have ht:Int.tmod ((kk:Int)+1) (l0.length:Int)=(j:Int):=by
    rw [Int.tmod_eq_emod_of_nonneg (by omega),← hj];simp
   have hw:wrap64 ((kk:Int)+1)=(kk:Int)+1:=by unfold wrap64;omega
   have hne : ¬ (l0=[]):=by rintro rfl;simp at hlt
   have HJ:=aK hj
   clear hj
   generalize rd_T31 l0 (kk:Int)=x at *
   generalize rd_T31 l0 (j:Int)=y at *
   have HC:=aK hcall
   clear hcall hb HI
   go_wp2
   have HK2:=aK (HD.out kk _ 1 (HA.out kk wr (.cells #[.int .i64 x.f0,.int .i64 x.f1] 31) HK.out))
   have p1:(wr.alloc (.cells #[.int .i64 x.f0,.int .i64 x.f1] 31)).drew.cell? ⟨wr.heap.size,0,none⟩=some (.int .i64 x.f0):=by go_simp
   have p2:(wr.alloc (.cells #[.int .i64 x.f0,.int .i64 x.f1] 31)).drew.cell? ⟨wr.heap.size,1,none⟩=some (.int .i64 x.f1):=by go_simp
   have p3:(wr.alloc (.cells #[.int .i64 x.f0,.int .i64 x.f1] 31)).drew.cell? (ad.add (j*2))=some (.int .i64 y.f0):=(World.cell?_alloc_lt _ _ _ (World.block_lt_of_cell? _ _ hy0)).trans hy0
   have p4:(wr.alloc (.cells #[.int .i64 x.f0,.int .i64 x.f1] 31)).drew.cell? ⟨(ad.add (j*2)).block,(ad.add (j*2)).off+1,none⟩=some (.int .i64 y.f1):=(World.cell?_alloc_lt _ _ _ (World.block_lt_of_cell? _ _ hy1)).trans hy1
   refine start_ (n:=12) (S:=fun w'=>w'.cell? ⟨wr.heap.size,0,none⟩=some (.int .i64 x.f0)∧w'.cell? ⟨wr.heap.size,1,none⟩=some (.int .i64 x.f1)∧w'.cell? (ad.add (j*2))=some (Value.int IntKind.i64 y.f0)∧w'.cell? ⟨(ad.add (j*2)).block,(ad.add (j*2)).off+1,none⟩=some (Value.int IntKind.i64 y.f1)) (ds:=[11]) #[false,false,false,false,false,false,false,false,false,false,false,false] (by kernel_rfl) rfl rfl ⟨p1,p2,p3,p4⟩ (fun hHeld=>?_)
   refine pure_ (i:=0) (N:=some 13) (v:=?_) (a':=?_) #[true,false,false,false,false,false,false,false,false,false,false,false] rfl rfl (by kernel_rfl) (fun _ _ _ h=>h) (Or.inl ⟨by rfl,?_⟩) ?_ ?_
   rotate_left
   ·intro w'
    go_simp
    with_reducible rfl
   rotate_left
   ·simp only [Act.put,lS,i64_w,i32_w]
    rfl
   refine pure_ (i:=2) (N:=some 15) (v:=?_) (a':=?_) #[true,false,true,false,false,false,false,false,false,false,false,false] rfl rfl (by kernel_rfl) (fun _ _ _ h=>h) (Or.inl ⟨by rfl,?_⟩) ?_ ?_
   rotate_left
   ·intro w'
    go_simp
    with_reducible rfl
   rotate_left
   ·simp only [Act.put,lS,i64_w,i32_w]
    rfl
   refine pure_ (i:=3) (N:=some 16) (v:=?_) (a':=?_) #[true,false,true,true,false,false,false,false,false,false,false,false] rfl rfl (by kernel_rfl) (fun _ _ _ h=>h) (Or.inl ⟨by rfl,?_⟩) ?_ ?_
   rotate_left
   ·intro w'
    go_simp
    with_reducible rfl
   rotate_left
   ·simp only [Act.put,lS,i64_w,i32_w]
    rfl
   refine pure_ (i:=4) (N:=some 17) (v:=?_) (a':=?_) #[true,false,true,true,true,false,false,false,false,false,false,false] rfl rfl (by kernel_rfl) (fun _ _ _ h=>h) (Or.inl ⟨by rfl,?_⟩) ?_ ?_
   rotate_left
   ·intro w'
    go_simp
    with_reducible rfl
   rotate_left
   ·simp only [Act.put,lS,i64_w,i32_w]
    rfl
   refine pure_ (i:=5) (N:=some 18) (v:=?_) (a':=?_) #[true,false,true,true,true,true,false,false,false,false,false,false] rfl rfl (by kernel_rfl) (fun _ _ _ h=>h) (Or.inl ⟨by rfl,?_⟩) ?_ ?_
   rotate_left
   ·intro w'
    go_simp
    with_reducible rfl
   rotate_left
   ·simp only [Act.put,lS,i64_w,i32_w]
    rfl
   refine pure_ (i:=6) (N:=some 19) (v:=?_) (a':=?_) #[true,false,true,true,true,true,true,false,false,false,false,false] rfl rfl (by kernel_rfl) (fun _ _ _ h=>h) (Or.inl ⟨by rfl,?_⟩) ?_ ?_
   rotate_left
   ·intro w'
    go_simp
    with_reducible rfl
   rotate_left
   ·simp only [Act.put,lS,i64_w,i32_w]
    rfl
   refine pure_ (i:=7) (N:=some 20) (v:=?_) (a':=?_) #[true,false,true,true,true,true,true,true,false,false,false,false] rfl rfl (by kernel_rfl) (fun _ _ _ h=>h) (Or.inl ⟨by rfl,?_⟩) ?_ ?_
   rotate_left
   ·intro w'
    go_simp
    with_reducible rfl
   rotate_left
   ·simp only [Act.put,lS,i64_w,i32_w]
    rfl
   refine pure_ (i:=8) (N:=some 21) (v:=?_) (a':=?_) #[true,false,true,true,true,true,true,true,true,false,false,false] rfl rfl (by kernel_rfl) (fun _ _ _ h=>h) (Or.inl ⟨by rfl,?_⟩) ?_ ?_
   rotate_left
   ·intro w'
    go_simp
    with_reducible rfl
   rotate_left
   ·simp only [Act.put,lS,i64_w,i32_w]
    rfl
   refine take_ (i:=1) (N:=some 14) (v:=?_) (a':=?_) #[true,true,true,true,true,true,true,true,true,false,false,false] rfl rfl (by kernel_rfl) (fun _ _ _ h=>h) (Or.inl ⟨by rfl,?_⟩) hHeld ?_ ?_
   rotate_left
   ·rintro w' ⟨s0,s1,s2,s3⟩
    go_simp
    with_reducible rfl
   rotate_left
   ·simp only [Act.put,lS,i64_w,i32_w]
    rfl
   refine take_ (i:=9) (N:=some 22) (v:=?_) (a':=?_) #[true,true,true,true,true,true,true,true,true,true,false,false] rfl rfl (by kernel_rfl) (fun _ _ _ h=>h) (Or.inl ⟨by rfl,?_⟩) hHeld ?_ ?_
   rotate_left
   ·rintro w' ⟨s0,s1,s2,s3⟩
    go_simp
    with_reducible rfl
   rotate_left
   ·simp only [Act.put,lS,i64_w,i32_w]
    rfl
   refine pure_ (i:=10) (N:=some 23) (v:=?_) (a':=?_) #[true,true,true,true,true,true,true,true,true,true,true,false] rfl rfl (by kernel_rfl) (fun _ _ _ h=>h) (Or.inl ⟨by rfl,?_⟩) ?_ ?_
   rotate_left
   ·intro w'
    go_simp
    with_reducible rfl
   rotate_left
   ·simp only [Act.put,lS,i64_w,i32_w]
    rfl
   refine last_ (i:=11) (N:=some 24) #[true,true,true,true,true,true,true,true,true,true,true,true] rfl rfl (by kernel_rfl) (by decide) (fun K hK=>?_)
   refine goesv_ lb #[edgeV x y] eg (by rfl) rfl rfl (by rfl) (by simp only [List.map_toArray,List.map_cons,List.map_nil];rfl) ?_
   refine (HC.out _ HK2.out).mono ?_
   rintro e w3 ⟨rfl,hk3⟩
   refine ⟨_,rfl,?_⟩
   refine hK.out _ _ ?_
   clear hK K
   refine norm_ (a':=?_) ?_ ?_
   rotate_left
   ·show Act.put _ (some 24) _=_
    simp only [Act.put,lS,i64_w,i32_w]
    rfl
   refine done_ (by kernel_rfl) ?_
   go_wp2
   go_roundg (l0.length-(kk+1))
   case measure=>omega
   case rel=>exact ⟨kk+1,by omega,by omega,by go_num,⟨hk3⟩⟩
  ·have hlti : ¬ (kk:Int)<(l0.length:Int):=by omega
   obtain rfl:kk=l0.length:=by omega
   go_wp2
   go_end0
   exact ⟨rfl,HK.out⟩
def pickAt (t : S31 → S31 → Bool) (l : List S31) : Nat → S31
 | 0=>rd_T31 l 0
 | i+1=>if t (rd_T31 l ((i+1:Nat):Int)) (pickAt t l i) then rd_T31 l ((i+1:Nat):Int) else pickAt t l i
set_option maxHeartbeats 4000000 in
theorem MinFunc_pts (g : Nat) (lb : Array Value) (cf : S31 → S31 → Int) (eg : ∀ args w, (callFunc g args).run Try.prog w = .ok (.enter g args) w) (A0 : Option Addr) (c0 : Nat) (l0 : List S31) (w : World)
  (hp : ∀ (W:World) (x y:S31),Below w.heap.size w W→Calls Try.prog g (#[.agg #[.int .i64 x.f0,.int .i64 x.f1],.agg #[.int .i64 y.f0,.int .i64 y.f1]]++lb) W fun e w'=>e = .returned (.int .i64 (cf x y))∧Below W.heap.size W w')
  (hr0:Kd.C k31 w A0 l0.length l0) (hlen:l0.length≤1000000000) (h1:1≤l0.length) :
  Calls Try.prog 42 #[.slice A0 l0.length c0,.func (.func g) #[] lb] w fun e w'=>e = .returned (.agg #[.int .i64 (pickAt (fun x m=>decide (cf x m<0)) l0 (l0.length-1)).f0,.int .i64 (pickAt (fun x m=>decide (cf x m<0)) l0 (l0.length-1)).f1])∧Below w.heap.size w w':=by
 have hu:=Try.underlying31
 have HR0:=aK hr0
 have HP:=aK hp
 have HL:=aK hlen
 have H1:=aK h1
 have h1b:decide ((l0.length:Int)<1)=false:=decide_eq_false (by omega)
 have h0i:(0:Int)<(l0.length:Int):=by omega
 have h0n:0<l0.length:=by omega
 have hne : ¬ (l0=[]):=by rintro rfl;simp at h0n
 obtain ⟨ad,rfl,hx0,hx1⟩:=at_T31 hr0 0 (by omega) h0i
 simp only [Int.toNat_zero,Nat.zero_mul] at hx0 hx1
 have hz0:(w.alloc (.cells #[.int .i64 0,.int .i64 0] 31)).cell? ad=some (.int .i64 (rd_T31 l0 0).f0):=(World.cell?_alloc_lt w (.cells #[.int .i64 0,.int .i64 0] 31) _ (World.block_lt_of_cell? w _ hx0)).trans hx0
 have hz1:(w.alloc (.cells #[.int .i64 0,.int .i64 0] 31)).cell? ⟨ad.block,ad.off+1,none⟩=some (.int .i64 (rd_T31 l0 0).f1):=(World.cell?_alloc_lt w (.cells #[.int .i64 0,.int .i64 0] 31) _ (World.block_lt_of_cell? w _ hx1)).trans hx1
 generalize hT:(fun x m=>decide (cf x m<0))=T
 have HT:=aK hT
 clear hp hr0 hlen h1 hx0 hx1 hT
 obtain ⟨y,hmm⟩ : ∃ mm,pickAt T l0 (l0.length-1)=mm:=⟨_,rfl⟩
 rw [hmm]
 have HM:=aK hmm
 clear hmm
 go_enter Try.func42,Try.ntmps42
 go_wp2
 go_loopg [6] l0.length (fun gg s6 wr=>∃ j kk:Nat,Aside0 (kk=j+1)∧kk≤l0.length∧l0.length≤gg+kk∧s6 = .int .i64 kk∧Aside0 (Below w.heap.size w wr)∧Aside0 (wr.heap[w.heap.size]?=some (.cells #[.int .i64 0,.int .i64 0] 31 (0,0)))∧Aside0 (wr.heap[w.heap.size+1]?=some (.cells #[.int .i64 (pickAt T l0 j).f0,.int .i64 (pickAt T l0 j).f1] 31 (0,0))))
 case atStart=>exact ⟨0,1,⟨rfl⟩,by have:=H1.out;omega,by omega,rfl,⟨below_alloc (below_alloc (Below.refl w.heap.size w) _) _⟩,⟨blk_alloc (blk_new w _) _⟩,⟨by have h:=blk_new (w.alloc (.cells #[.int .i64 0,.int .i64 0] 31)) (.cells #[.int .i64 (rd_T31 l0 0).f0,.int .i64 (rd_T31 l0 0).f1] 31);simp only [World.size_alloc] at h;exact h⟩⟩
 case round =>
  obtain ⟨j,kk,HK,hj,hg,rfl,HB,B4,BM⟩:=hrel
  by_cases hlt:kk<l0.length
  ·have hlti:(kk:Int)<(l0.length:Int):=by omega
   have hk0:0≤(kk:Int):=by omega
   obtain ⟨ad',e',hy0,hy1⟩:=at_T31 HR0.out (kk:Int) (by omega) hlti
   obtain rfl:ad=ad':=by injection e'
   simp only [Int.toNat_natCast] at hy0 hy1
   have hx0:=(HB.out.cell (World.block_lt_of_cell? w _ hy0)).trans hy0
   have hx1:=(HB.out.cell (World.block_lt_of_cell? w _ hy1)).trans hy1
   have hpk:pickAt T l0 (j+1)=if T (rd_T31 l0 (kk:Int)) (pickAt T l0 j) then rd_T31 l0 (kk:Int) else pickAt T l0 j:=by rw [HK.out];rfl
   generalize rd_T31 l0 (kk:Int)=x at *
   generalize pickAt T l0 j=y at *
   have P1:=aK (show wr.drew.cell? (ad.add (kk*2))=some (.int .i64 x.f0) from hx0)
   have P2:=aK (show wr.drew.cell? ⟨(ad.add (kk*2)).block,(ad.add (kk*2)).off+1,none⟩=some (.int .i64 x.f1) from hx1)
   have P3:=aK (show wr.drew.cell? ⟨w.heap.size+1,0,none⟩=some (.int .i64 y.f0) from (blk_cell BM.out 0).trans rfl)
   have P4:=aK (show wr.drew.cell? ⟨w.heap.size+1,1,none⟩=some (.int .i64 y.f1) from (blk_cell BM.out 1).trans rfl)
   have hcall:=HP.out wr.drew x y (below_drew1 HB.out)
   have hwj:wrap64 ((kk:Int)+1)=((kk+1:Nat):Int):=by have:=HL.out;unfold wrap64;omega
   have HW:=aK hwj
   have HPK:=aK hpk
   have HTT:T x y=decide (cf x y<0):=by rw [← HT.out]
   generalize hv:cf x y=v at *
   have HCALL:=aK hcall
   have HV:=aK hv
   clear hy0 hy1 hx0 hx1 hcall hwj hpk e' hv
   cases htb:T x y with
   | true =>
    rw [htb] at HTT
    have hvb:decide (v<0)=true:=HTT.symm
    have HPK2:=aK (show pickAt T l0 (j+1)=x by rw [HPK.out,htb];rfl)
    clear HTT HPK htb
    go_wp2
    refine start_ (n:=8) (S:=fun w'=>w'.cell? (ad.add (kk*2))=some (.int .i64 x.f0)∧w'.cell? ⟨(ad.add (kk*2)).block,(ad.add (kk*2)).off+1,none⟩=some (.int .i64 x.f1)∧w'.cell? ⟨w.heap.size+1,0,none⟩=some (.int .i64 y.f0)∧w'.cell? ⟨w.heap.size+1,1,none⟩=some (.int .i64 y.f1)) (ds:=[6]) #[false,false,false,false,false,false,false,false] (by kernel_rfl) rfl rfl ⟨P1.out,P2.out,P3.out,P4.out⟩ (fun hHeld=>?_)
    refine pure_ (i:=0) (N:=some 20) (v:=?_) (a':=?_) #[true,false,false,false,false,false,false,false] rfl rfl (by kernel_rfl) (fun _ _ _ h=>h) (Or.inl ⟨by rfl,?_⟩) ?_ ?_
    rotate_left
    ·intro w'
     go_simp
     with_reducible rfl
    rotate_left
    ·simp only [Act.put,lS,i64_w,i32_w]
     rfl
    refine pure_ (i:=1) (N:=some 21) (v:=?_) (a':=?_) #[true,true,false,false,false,false,false,false] rfl rfl (by kernel_rfl) (fun _ _ _ h=>h) (Or.inl ⟨by rfl,?_⟩) ?_ ?_
    rotate_left
    ·intro w'
     go_simp
     with_reducible rfl
    rotate_left
    ·simp only [Act.put,lS,i64_w,i32_w]
     rfl
    refine pure_ (i:=2) (N:=some 22) (v:=?_) (a':=?_) #[true,true,true,false,false,false,false,false] rfl rfl (by kernel_rfl) (fun _ _ _ h=>h) (Or.inl ⟨by rfl,?_⟩) ?_ ?_
    rotate_left
    ·intro w'
     go_simp
     with_reducible rfl
    rotate_left
    ·simp only [Act.put,lS,i64_w,i32_w]
     rfl
    refine pure_ (i:=3) (N:=some 23) (v:=?_) (a':=?_) #[true,true,true,true,false,false,false,false] rfl rfl (by kernel_rfl) (fun _ _ _ h=>h) (Or.inl ⟨by rfl,?_⟩) ?_ ?_
    rotate_left
    ·intro w'
     go_simp
     with_reducible rfl
    rotate_left
    ·simp only [Act.put,lS,i64_w,i32_w]
     rfl
    refine take_ (i:=4) (N:=some 24) (v:=?_) (a':=?_) #[true,true,true,true,true,false,false,false] rfl rfl (by kernel_rfl) (fun _ _ _ h=>h) (Or.inl ⟨by rfl,?_⟩) hHeld ?_ ?_
    rotate_left
    ·rintro w' ⟨s0,s1,s2,s3⟩
     go_simp
     with_reducible rfl
    rotate_left
    ·simp only [Act.put,lS,i64_w,i32_w]
     rfl
    refine take_ (i:=5) (N:=some 25) (v:=?_) (a':=?_) #[true,true,true,true,true,true,false,false] rfl rfl (by kernel_rfl) (fun _ _ _ h=>h) (Or.inl ⟨by rfl,?_⟩) hHeld ?_ ?_
    rotate_left
    ·rintro w' ⟨s0,s1,s2,s3⟩
     go_simp
     with_reducible rfl
    rotate_left
    ·simp only [Act.put,lS,i64_w,i32_w]
     rfl
    refine last_ (i:=6) (N:=some 26) #[true,true,true,true,true,true,true,false] rfl rfl (by kernel_rfl) (by decide) (fun K hK=>?_)
    refine goesv_ lb #[.agg #[.int .i64 x.f0,.int .i64 x.f1],.agg #[.int .i64 y.f0,.int .i64 y.f1]] eg (by rfl) rfl rfl (by rfl) (by simp only [List.map_toArray,List.map_cons,List.map_nil];rfl) ?_
    refine HCALL.out.mono ?_
    rintro e w3 ⟨rfl,hk3⟩
    refine ⟨_,rfl,?_⟩
    refine hK.out _ _ ?_
    clear hK K
    refine norm_ (a':=?_) ?_ ?_
    rotate_left
    ·show Act.put _ (some 26) _=_
     simp only [Act.put,lS,i64_w,i32_w]
     rfl
    refine pure_ (i:=7) (N:=some 27) (v:=?_) (a':=?_) #[true,true,true,true,true,true,true,true] rfl rfl (by kernel_rfl) (fun _ _ _ h=>h) (Or.inl ⟨by rfl,?_⟩) ?_ ?_
    rotate_left
    ·intro w'
     go_simp
     with_reducible rfl
    rotate_left
    ·simp only [Act.put,lS,i64_w,i32_w]
     rfl
    refine done_ (by kernel_rfl) ?_
    have q1:=(hk3.cell (World.block_lt_of_cell? _ _ P1.out)).trans P1.out
    have q2:=(hk3.cell (World.block_lt_of_cell? _ _ P2.out)).trans P2.out
    have BM3:=blk_below (blk_drew BM.out) hk3
    have B43:=aK (blk_below (blk_drew B4.out) hk3)
    have HB3:=aK (below_step (below_drew1 HB.out) hk3)
    have r1:=(blk_cell BM3 0).trans rfl
    have r2:=blk_frozen BM3 0
    have r3:=(blk_cell (blk_set BM3 0 (.int .i64 x.f0)) 1).trans rfl
    have r4:=blk_frozen (blk_set BM3 0 (.int .i64 x.f0)) 1
    have BM3:=aK BM3
    clear hk3
    go_wp2
    go_roundg (l0.length-(kk+1))
    case measure=>omega
    case rel=>exact ⟨j+1,kk+1,⟨by rw [HK.out]⟩,by omega,by omega,congrArg (Value.int .i64) HW.out,⟨below_set (below_set HB3.out (by omega)) (by omega)⟩,⟨blk_far (blk_far B43.out (by simp) _) (by simp) _⟩,⟨by rw [HPK2.out];exact blk_set (blk_set BM3.out 0 _) 1 _⟩⟩
   | false =>
    rw [htb] at HTT
    have hvb:decide (v<0)=false:=HTT.symm
    have HPK2:=aK (show pickAt T l0 (j+1)=y by rw [HPK.out,htb];rfl)
    clear HTT HPK htb
    go_wp2
    refine start_ (n:=8) (S:=fun w'=>w'.cell? (ad.add (kk*2))=some (.int .i64 x.f0)∧w'.cell? ⟨(ad.add (kk*2)).block,(ad.add (kk*2)).off+1,none⟩=some (.int .i64 x.f1)∧w'.cell? ⟨w.heap.size+1,0,none⟩=some (.int .i64 y.f0)∧w'.cell? ⟨w.heap.size+1,1,none⟩=some (.int .i64 y.f1)) (ds:=[6]) #[false,false,false,false,false,false,false,false] (by kernel_rfl) rfl rfl ⟨P1.out,P2.out,P3.out,P4.out⟩ (fun hHeld=>?_)
    refine pure_ (i:=0) (N:=some 20) (v:=?_) (a':=?_) #[true,false,false,false,false,false,false,false] rfl rfl (by kernel_rfl) (fun _ _ _ h=>h) (Or.inl ⟨by rfl,?_⟩) ?_ ?_
    rotate_left
    ·intro w'
     go_simp
     with_reducible rfl
    rotate_left
    ·simp only [Act.put,lS,i64_w,i32_w]
     rfl
    refine pure_ (i:=1) (N:=some 21) (v:=?_) (a':=?_) #[true,true,false,false,false,false,false,false] rfl rfl (by kernel_rfl) (fun _ _ _ h=>h) (Or.inl ⟨by rfl,?_⟩) ?_ ?_
    rotate_left
    ·intro w'
     go_simp
     with_reducible rfl
    rotate_left
    ·simp only [Act.put,lS,i64_w,i32_w]
     rfl
    refine pure_ (i:=2) (N:=some 22) (v:=?_) (a':=?_) #[true,true,true,false,false,false,false,false] rfl rfl (by kernel_rfl) (fun _ _ _ h=>h) (Or.inl ⟨by rfl,?_⟩) ?_ ?_
    rotate_left
    ·intro w'
     go_simp
     with_reducible rfl
    rotate_left
    ·simp only [Act.put,lS,i64_w,i32_w]
     rfl
    refine pure_ (i:=3) (N:=some 23) (v:=?_) (a':=?_) #[true,true,true,true,false,false,false,false] rfl rfl (by kernel_rfl) (fun _ _ _ h=>h) (Or.inl ⟨by rfl,?_⟩) ?_ ?_
    rotate_left
    ·intro w'
     go_simp
     with_reducible rfl
    rotate_left
    ·simp only [Act.put,lS,i64_w,i32_w]
     rfl
    refine take_ (i:=4) (N:=some 24) (v:=?_) (a':=?_) #[true,true,true,true,true,false,false,false] rfl rfl (by kernel_rfl) (fun _ _ _ h=>h) (Or.inl ⟨by rfl,?_⟩) hHeld ?_ ?_
    rotate_left
    ·rintro w' ⟨s0,s1,s2,s3⟩
     go_simp
     with_reducible rfl
    rotate_left
    ·simp only [Act.put,lS,i64_w,i32_w]
     rfl
    refine take_ (i:=5) (N:=some 25) (v:=?_) (a':=?_) #[true,true,true,true,true,true,false,false] rfl rfl (by kernel_rfl) (fun _ _ _ h=>h) (Or.inl ⟨by rfl,?_⟩) hHeld ?_ ?_
    rotate_left
    ·rintro w' ⟨s0,s1,s2,s3⟩
     go_simp
     with_reducible rfl
    rotate_left
    ·simp only [Act.put,lS,i64_w,i32_w]
     rfl
    refine last_ (i:=6) (N:=some 26) #[true,true,true,true,true,true,true,false] rfl rfl (by kernel_rfl) (by decide) (fun K hK=>?_)
    refine goesv_ lb #[.agg #[.int .i64 x.f0,.int .i64 x.f1],.agg #[.int .i64 y.f0,.int .i64 y.f1]] eg (by rfl) rfl rfl (by rfl) (by simp only [List.map_toArray,List.map_cons,List.map_nil];rfl) ?_
    refine HCALL.out.mono ?_
    rintro e w3 ⟨rfl,hk3⟩
    refine ⟨_,rfl,?_⟩
    refine hK.out _ _ ?_
    clear hK K
    refine norm_ (a':=?_) ?_ ?_
    rotate_left
    ·show Act.put _ (some 26) _=_
     simp only [Act.put,lS,i64_w,i32_w]
     rfl
    refine pure_ (i:=7) (N:=some 27) (v:=?_) (a':=?_) #[true,true,true,true,true,true,true,true] rfl rfl (by kernel_rfl) (fun _ _ _ h=>h) (Or.inl ⟨by rfl,?_⟩) ?_ ?_
    rotate_left
    ·intro w'
     go_simp
     with_reducible rfl
    rotate_left
    ·simp only [Act.put,lS,i64_w,i32_w]
     rfl
    refine done_ (by kernel_rfl) ?_
    have BM3:=aK (blk_below (blk_drew BM.out) hk3)
    have B43:=aK (blk_below (blk_drew B4.out) hk3)
    have HB3:=aK (below_step (below_drew1 HB.out) hk3)
    clear hk3
    go_wp2
    go_roundg (l0.length-(kk+1))
    case measure=>omega
    case rel=>exact ⟨j+1,kk+1,⟨by rw [HK.out]⟩,by omega,by omega,congrArg (Value.int .i64) HW.out,⟨HB3.out⟩,⟨B43.out⟩,⟨by rw [HPK2.out];exact BM3.out⟩⟩
  ·have hlti : ¬ (kk:Int)<(l0.length:Int):=by omega
   have hjl:l0.length-1=j:=by have:=HK.out;omega
   have hy:pickAt T l0 j=y:=by have:=HM.out;rw [hjl] at this;exact this
   rw [hy] at BM
   have r1:=(blk_cell BM.out 0).trans rfl
   have r2:=(blk_cell BM.out 1).trans rfl
   have r3:=(blk_cell B4.out 0).trans rfl
   have r4:=blk_frozen B4.out 0
   have r5:=(blk_cell (blk_set B4.out 0 (.int .i64 y.f0)) 1).trans rfl
   have r6:=blk_frozen (blk_set B4.out 0 (.int .i64 y.f0)) 1
   clear hjl hy
   go_wp2
   refine bodyPost_ret (results_cell_row rfl _ _ w.heap.size 31 #[.int .i64 y.f0,.int .i64 y.f1] (0,0) _ rfl (blk_set (blk_set B4.out 0 _) 1 _) Try.underlying31 rfl (by kernel_rfl)) rfl ?_
   exact ⟨rfl,below_set (below_set HB.out (Nat.le_refl _)) (Nat.le_refl _)⟩
def scan_Valid.l0 : Nat → Int → Int → List (S36) → Int → Int → Option (Bool)
 | 0,_,_,_,_,_=>none
 | k+1,x1,x5,x8,x9,x10=>if x10<x9 then (if 0≤x10 then (if x10<(x8.length:Int) then (if ((rd_T36 x8 x10).f0)≤x5 then (some false) else (if ((rd_T36 x8 x10).f0)<0 then (some false) else (if ((rd_T36 x8 x10).f1)≤((rd_T36 x8 x10).f0) then (some false) else (if ((rd_T36 x8 x10).f1)>x1 then (some false) else (scan_Valid.l0 k x1 ((rd_T36 x8 x10).f1) x8 x9 (wrap64 (x10+1))))))) else (none)) else (none)) else (some true)
def scan_Valid.f (k:Nat) (l0:List (S36)) (a1:Int):Option (Bool):=scan_Valid.l0 k a1 (-1) l0 (l0.length:Int) 0
theorem scan_Valid.mono_l : ∀ k, (∀ y0 y1 y2 y3 y4, LeO (scan_Valid.l0 k y0 y1 y2 y3 y4) (scan_Valid.l0 (k + 1) y0 y1 y2 y3 y4))
 | 0=>fun _ _ _ _ _ r h=>by simp [scan_Valid.l0] at h
 | k+1=>by
  have ih0:=scan_Valid.mono_l k
  ·intro y0 y1 y2 y3 y4
   unfold scan_Valid.l0
   repeat' first
   | (with_reducible exact ih0 _ _ _ _ _)
   | (with_reducible exact LeO.refl _)
   | (with_reducible exact LeO.none _)
   | (with_reducible refine LeO.ite ?_ ?_)
   | (with_reducible refine LeO.bind ?_ (fun _=>?_))
   | exact ih0 _ _ _ _ _
   | exact LeO.none _
   | refine LeO.ite ?_ ?_
   | refine LeO.bind ?_ (fun _=>?_)
theorem scan_Valid.mono : ∀ a0 a1 k,LeO (scan_Valid.f k a0 a1) (scan_Valid.f (k+1) a0 a1):=by
 intro a0 a1 k
 have ih0:=scan_Valid.mono_l k
 unfold scan_Valid.f
 repeat' first
   | (with_reducible exact ih0 _ _ _ _ _)
   | (with_reducible exact LeO.refl _)
   | (with_reducible exact LeO.none _)
   | (with_reducible refine LeO.ite ?_ ?_)
   | (with_reducible refine LeO.bind ?_ (fun _=>?_))
   | exact ih0 _ _ _ _ _
   | exact LeO.none _
   | refine LeO.ite ?_ ?_
   | refine LeO.bind ?_ (fun _=>?_)
set_option maxHeartbeats 8000000 in
theorem scan_Valid.calls (k : Nat) (A0 : Option Addr) (c0 : Nat) (l0 : List (S36)) (a1 : Int) (r : Bool) (w : World) (hr0 : Kd.C k36 w A0 l0.length l0) (hc0 : l0.length ≤ c0) (h : scan_Valid.f k l0 a1 = some r) :
  Calls Try.prog 18 #[.slice A0 l0.length c0,.int .i64 a1] w fun e w'=>e = .returned (.bool r)∧Below w.heap.size w w':=by
 have hu36:=Try.underlying36
 have HR0:=aK hr0
 have HC0:=aK hc0
 clear hr0 hc0
 have HB:=aK (Below.refl w.heap.size w)
 have H:(scan_Valid.l0 k a1 (-1) l0 (l0.length:Int) 0)=some r:=h
 clear h
 have H':=aK H
 clear H
 go_enter Try.func18,Try.ntmps18
 go_wp2
 go_loopg [5,10] k (fun kq v5 v10 w'=>∃ (x5_1:Int) (x10_1:Int),v5 = .int .i64 x5_1∧v10 = .int .i64 x10_1∧Aside0 (scan_Valid.l0 kq a1 x5_1 l0 (l0.length:Int) x10_1=some r)∧Aside0 (kq≤k)∧Aside0 (Below w.heap.size w w'))
 case atStart=>exact ⟨((-1)),(0),(by first|rfl|(simp;done)|(simp [*];done)),(by first|rfl|(simp;done)|(simp [*];done)),H',⟨Nat.le_refl _⟩,⟨by repeat (first|(with_reducible first|exact HB.out|apply below_alloc|apply pw_below_drewN|apply below_drew1)|exact HB.out)⟩⟩
 case round =>
  clear H'
  try clear c1
  try clear p2
  obtain ⟨x5_1,x10_1,rfl,rfl,HA,HK1,HB⟩:=hrel
  cases gk with
  | zero=>exact absurd HA.out (by simp [scan_Valid.l0])
  | succ k1 =>
   have H:=HA.out
   clear HA
   simp only [scan_Valid.l0] at H
   by_cases c3:x10_1<(l0.length:Int)
   ·rw [if_pos c3] at H
    have c3b0:decide (x10_1<(l0.length:Int))=true:=decide_eq_true c3
    clear c3
    by_cases c4:0≤x10_1
    ·rw [if_pos c4] at H
     have c4b0:decide (0≤x10_1)=true:=decide_eq_true c4
     clear c4
     by_cases c5:x10_1<(l0.length:Int)
     ·rw [if_pos c5] at H
      have c5b0:decide (x10_1<(l0.length:Int))=true:=decide_eq_true c5
      clear c5
      by_cases c6:((rd_T36 l0 x10_1).f0)≤x5_1
      ·rw [if_pos c6] at H
       have c6b0:decide (((rd_T36 l0 x10_1).f0)≤x5_1)=true:=decide_eq_true c6
       clear c6
       obtain rfl:=Option.some.inj H
       have p119:0≤(x10_1:Int):=of_decide_eq_true (by first|(with_reducible assumption)|assumption)
       have q119:x10_1<(l0.length:Int):=of_decide_eq_true (by first|(with_reducible assumption)|assumption)
       obtain ⟨ad119,e119,hx119_0,hx119_1⟩:=at_T36 HR0.out x10_1 p119 q119
       cases e119
       replace hx119_0:=(HB.out.cell (World.block_lt_of_cell? w _ hx119_0)).trans hx119_0
       replace hx119_1:=(HB.out.cell (World.block_lt_of_cell? w _ hx119_1)).trans hx119_1
       replace p119:=eq_true p119
       replace q119:=eq_true q119
       go_wp2_with ((with_reducible refine gate_dst (N:=7) rfl ?_);refine box_event ?hg (N:=7) ?hd (cs:=#[.int .i64 0,.int .i64 0]) (t:=36) ?hr ?_;(case hd=>rfl);(case hg=>rfl);(case hr=>first|(go_simp;done)|(go_simp;rfl));intro gb120 hg w7 hbox hb;have n0_:=aK (below_step (by repeat (first|(with_reducible first|exact HB.out|apply below_alloc|apply pw_below_drewN|apply below_drew1)|exact HB.out)) hb);have n1_:=aK (hbox);have n2_:=aK ((by rw [hg];exact (below_size (by repeat (first|(with_reducible first|exact HB.out|apply below_alloc|apply pw_below_drewN|apply below_drew1)|exact HB.out))):w.heap.size≤gb120));have n3_:=n2_;clear HB;have HB:=n0_;have BK120:=n1_;have GW120:=n2_;have GE120:=n3_;clear n0_ n1_ n2_ n3_;clear hb hbox hg;have hcz8_0:w7.cell? ⟨gb120,0,none⟩=some (.int .i64 0):=(blk_cell BK120.out 0).trans rfl;have hcz8_1:w7.cell? ⟨gb120,1,none⟩=some (.int .i64 0):=(blk_cell BK120.out 1).trans rfl;have hfz8_0:=blk_frozen BK120.out 0;have hfz8_1:=blk_frozen BK120.out 1)
       go_ret
       exact ⟨by first|rfl|(simp [errW_none,errW_some] <;> rfl)|(simp [*,errW_none,errW_some] <;> rfl),by repeat (first|(with_reducible first|exact HB.out|apply below_alloc|apply pw_below_drewN|apply below_drew1|refine below_set ?_ GE120.out)|exact HB.out)⟩
      ·rw [if_neg c6] at H
       have c6b0:decide (((rd_T36 l0 x10_1).f0)≤x5_1)=false:=decide_eq_false c6
       clear c6
       by_cases c9:((rd_T36 l0 x10_1).f0)<0
       ·rw [if_pos c9] at H
        have c9b0:decide (((rd_T36 l0 x10_1).f0)<0)=true:=decide_eq_true c9
        clear c9
        obtain rfl:=Option.some.inj H
        have p119:0≤(x10_1:Int):=of_decide_eq_true (by first|(with_reducible assumption)|assumption)
        have q119:x10_1<(l0.length:Int):=of_decide_eq_true (by first|(with_reducible assumption)|assumption)
        obtain ⟨ad119,e119,hx119_0,hx119_1⟩:=at_T36 HR0.out x10_1 p119 q119
        cases e119
        replace hx119_0:=(HB.out.cell (World.block_lt_of_cell? w _ hx119_0)).trans hx119_0
        replace hx119_1:=(HB.out.cell (World.block_lt_of_cell? w _ hx119_1)).trans hx119_1
        replace p119:=eq_true p119
        replace q119:=eq_true q119
        go_wp2_with ((with_reducible refine gate_dst (N:=7) rfl ?_);refine box_event ?hg (N:=7) ?hd (cs:=#[.int .i64 0,.int .i64 0]) (t:=36) ?hr ?_;(case hd=>rfl);(case hg=>rfl);(case hr=>first|(go_simp;done)|(go_simp;rfl));intro gb120 hg w10 hbox hb;have n0_:=aK (below_step (by repeat (first|(with_reducible first|exact HB.out|apply below_alloc|apply pw_below_drewN|apply below_drew1)|exact HB.out)) hb);have n1_:=aK (hbox);have n2_:=aK ((by rw [hg];exact (below_size (by repeat (first|(with_reducible first|exact HB.out|apply below_alloc|apply pw_below_drewN|apply below_drew1)|exact HB.out))):w.heap.size≤gb120));have n3_:=n2_;clear HB;have HB:=n0_;have BK120:=n1_;have GW120:=n2_;have GE120:=n3_;clear n0_ n1_ n2_ n3_;clear hb hbox hg;have hcz11_0:w10.cell? ⟨gb120,0,none⟩=some (.int .i64 0):=(blk_cell BK120.out 0).trans rfl;have hcz11_1:w10.cell? ⟨gb120,1,none⟩=some (.int .i64 0):=(blk_cell BK120.out 1).trans rfl;have hfz11_0:=blk_frozen BK120.out 0;have hfz11_1:=blk_frozen BK120.out 1)
        go_ret
        exact ⟨by first|rfl|(simp [errW_none,errW_some] <;> rfl)|(simp [*,errW_none,errW_some] <;> rfl),by repeat (first|(with_reducible first|exact HB.out|apply below_alloc|apply pw_below_drewN|apply below_drew1|refine below_set ?_ GE120.out)|exact HB.out)⟩
       ·rw [if_neg c9] at H
        have c9b0:decide (((rd_T36 l0 x10_1).f0)<0)=false:=decide_eq_false c9
        clear c9
        by_cases c12:((rd_T36 l0 x10_1).f1)≤((rd_T36 l0 x10_1).f0)
        ·rw [if_pos c12] at H
         have c12b0:decide (((rd_T36 l0 x10_1).f1)≤((rd_T36 l0 x10_1).f0))=true:=decide_eq_true c12
         clear c12
         obtain rfl:=Option.some.inj H
         have p119:0≤(x10_1:Int):=of_decide_eq_true (by first|(with_reducible assumption)|assumption)
         have q119:x10_1<(l0.length:Int):=of_decide_eq_true (by first|(with_reducible assumption)|assumption)
         obtain ⟨ad119,e119,hx119_0,hx119_1⟩:=at_T36 HR0.out x10_1 p119 q119
         cases e119
         replace hx119_0:=(HB.out.cell (World.block_lt_of_cell? w _ hx119_0)).trans hx119_0
         replace hx119_1:=(HB.out.cell (World.block_lt_of_cell? w _ hx119_1)).trans hx119_1
         replace p119:=eq_true p119
         replace q119:=eq_true q119
         go_wp2_with ((with_reducible refine gate_dst (N:=7) rfl ?_);refine box_event ?hg (N:=7) ?hd (cs:=#[.int .i64 0,.int .i64 0]) (t:=36) ?hr ?_;(case hd=>rfl);(case hg=>rfl);(case hr=>first|(go_simp;done)|(go_simp;rfl));intro gb120 hg w13 hbox hb;have n0_:=aK (below_step (by repeat (first|(with_reducible first|exact HB.out|apply below_alloc|apply pw_below_drewN|apply below_drew1)|exact HB.out)) hb);have n1_:=aK (hbox);have n2_:=aK ((by rw [hg];exact (below_size (by repeat (first|(with_reducible first|exact HB.out|apply below_alloc|apply pw_below_drewN|apply below_drew1)|exact HB.out))):w.heap.size≤gb120));have n3_:=n2_;clear HB;have HB:=n0_;have BK120:=n1_;have GW120:=n2_;have GE120:=n3_;clear n0_ n1_ n2_ n3_;clear hb hbox hg;have hcz14_0:w13.cell? ⟨gb120,0,none⟩=some (.int .i64 0):=(blk_cell BK120.out 0).trans rfl;have hcz14_1:w13.cell? ⟨gb120,1,none⟩=some (.int .i64 0):=(blk_cell BK120.out 1).trans rfl;have hfz14_0:=blk_frozen BK120.out 0;have hfz14_1:=blk_frozen BK120.out 1)
         go_ret
         exact ⟨by first|rfl|(simp [errW_none,errW_some] <;> rfl)|(simp [*,errW_none,errW_some] <;> rfl),by repeat (first|(with_reducible first|exact HB.out|apply below_alloc|apply pw_below_drewN|apply below_drew1|refine below_set ?_ GE120.out)|exact HB.out)⟩
        ·rw [if_neg c12] at H
         have c12b0:decide (((rd_T36 l0 x10_1).f1)≤((rd_T36 l0 x10_1).f0))=false:=decide_eq_false c12
         clear c12
         by_cases c15:((rd_T36 l0 x10_1).f1)>a1
         ·rw [if_pos c15] at H
          have c15b0:decide (a1<((rd_T36 l0 x10_1).f1))=true:=decide_eq_true c15
          clear c15
          obtain rfl:=Option.some.inj H
          have p119:0≤(x10_1:Int):=of_decide_eq_true (by first|(with_reducible assumption)|assumption)
          have q119:x10_1<(l0.length:Int):=of_decide_eq_true (by first|(with_reducible assumption)|assumption)
          obtain ⟨ad119,e119,hx119_0,hx119_1⟩:=at_T36 HR0.out x10_1 p119 q119
          cases e119
          replace hx119_0:=(HB.out.cell (World.block_lt_of_cell? w _ hx119_0)).trans hx119_0
          replace hx119_1:=(HB.out.cell (World.block_lt_of_cell? w _ hx119_1)).trans hx119_1
          replace p119:=eq_true p119
          replace q119:=eq_true q119
          go_wp2_with ((with_reducible refine gate_dst (N:=7) rfl ?_);refine box_event ?hg (N:=7) ?hd (cs:=#[.int .i64 0,.int .i64 0]) (t:=36) ?hr ?_;(case hd=>rfl);(case hg=>rfl);(case hr=>first|(go_simp;done)|(go_simp;rfl));intro gb120 hg w16 hbox hb;have n0_:=aK (below_step (by repeat (first|(with_reducible first|exact HB.out|apply below_alloc|apply pw_below_drewN|apply below_drew1)|exact HB.out)) hb);have n1_:=aK (hbox);have n2_:=aK ((by rw [hg];exact (below_size (by repeat (first|(with_reducible first|exact HB.out|apply below_alloc|apply pw_below_drewN|apply below_drew1)|exact HB.out))):w.heap.size≤gb120));have n3_:=n2_;clear HB;have HB:=n0_;have BK120:=n1_;have GW120:=n2_;have GE120:=n3_;clear n0_ n1_ n2_ n3_;clear hb hbox hg;have hcz17_0:w16.cell? ⟨gb120,0,none⟩=some (.int .i64 0):=(blk_cell BK120.out 0).trans rfl;have hcz17_1:w16.cell? ⟨gb120,1,none⟩=some (.int .i64 0):=(blk_cell BK120.out 1).trans rfl;have hfz17_0:=blk_frozen BK120.out 0;have hfz17_1:=blk_frozen BK120.out 1)
          go_ret
          exact ⟨by first|rfl|(simp [errW_none,errW_some] <;> rfl)|(simp [*,errW_none,errW_some] <;> rfl),by repeat (first|(with_reducible first|exact HB.out|apply below_alloc|apply pw_below_drewN|apply below_drew1|refine below_set ?_ GE120.out)|exact HB.out)⟩
         ·rw [if_neg c15] at H
          have c15b0:decide (a1<((rd_T36 l0 x10_1).f1))=false:=decide_eq_false c15
          clear c15
          have H':=aK H
          clear H
          have p119:0≤(x10_1:Int):=of_decide_eq_true (by first|(with_reducible assumption)|assumption)
          have q119:x10_1<(l0.length:Int):=of_decide_eq_true (by first|(with_reducible assumption)|assumption)
          obtain ⟨ad119,e119,hx119_0,hx119_1⟩:=at_T36 HR0.out x10_1 p119 q119
          cases e119
          replace hx119_0:=(HB.out.cell (World.block_lt_of_cell? w _ hx119_0)).trans hx119_0
          replace hx119_1:=(HB.out.cell (World.block_lt_of_cell? w _ hx119_1)).trans hx119_1
          replace p119:=eq_true p119
          replace q119:=eq_true q119
          go_wp2_with ((with_reducible refine gate_dst (N:=7) rfl ?_);refine box_event ?hg (N:=7) ?hd (cs:=#[.int .i64 0,.int .i64 0]) (t:=36) ?hr ?_;(case hd=>rfl);(case hg=>rfl);(case hr=>first|(go_simp;done)|(go_simp;rfl));intro gb120 hg w18 hbox hb;have n0_:=aK (below_step (by repeat (first|(with_reducible first|exact HB.out|apply below_alloc|apply pw_below_drewN|apply below_drew1)|exact HB.out)) hb);have n1_:=aK (hbox);have n2_:=aK ((by rw [hg];exact (below_size (by repeat (first|(with_reducible first|exact HB.out|apply below_alloc|apply pw_below_drewN|apply below_drew1)|exact HB.out))):w.heap.size≤gb120));have n3_:=n2_;clear HB;have HB:=n0_;have BK120:=n1_;have GW120:=n2_;have GE120:=n3_;clear n0_ n1_ n2_ n3_;clear hb hbox hg;have hcz19_0:w18.cell? ⟨gb120,0,none⟩=some (.int .i64 0):=(blk_cell BK120.out 0).trans rfl;have hcz19_1:w18.cell? ⟨gb120,1,none⟩=some (.int .i64 0):=(blk_cell BK120.out 1).trans rfl;have hfz19_0:=blk_frozen BK120.out 0;have hfz19_1:=blk_frozen BK120.out 1)
          go_roundg k1
          case measure=>have:=HK1.out;omega
          case rel=>exact ⟨((rd_T36 l0 x10_1).f1),(wrap64 (x10_1+1)),(by first|rfl|(simp;done)|(simp [*];done)),(by first|rfl|(simp;done)|(simp [*];done)),H',⟨by have:=HK1.out;omega⟩,⟨by repeat (first|(with_reducible first|exact HB.out|apply below_alloc|apply pw_below_drewN|apply below_drew1|refine below_set ?_ GE120.out)|exact HB.out)⟩⟩
     ·rw [if_neg c5] at H
      exact absurd H (by simp)
    ·rw [if_neg c4] at H
     exact absurd H (by simp)
   ·rw [if_neg c3] at H
    have c3b0:decide (x10_1<(l0.length:Int))=false:=decide_eq_false c3
    clear c3
    obtain rfl:=Option.some.inj H
    go_wp2
    go_ret
    exact ⟨by first|rfl|(simp [errW_none,errW_some] <;> rfl)|(simp [*,errW_none,errW_some] <;> rfl),by repeat (first|(with_reducible first|exact HB.out|apply below_alloc|apply pw_below_drewN|apply below_drew1)|exact HB.out)⟩
def scan_Count.l0 : Nat → Int → List (S36) → Int → Int → Option (Int × Int)
 | 0,_,_,_,_=>none
 | k+1,x4,x10,x11,x12=>if x12<x11 then (if 0≤x12 then (if x12<(x10.length:Int) then (scan_Count.l0 k (wrap64 (x4+(wrap64 (((rd_T36 x10 x12).f1)-((rd_T36 x10 x12).f0))))) x10 x11 (wrap64 (x12+1))) else (none)) else (none)) else (some (x4,0))
def scan_Count.f (k:Nat) (l0:List (S36)):Option (Int×Int):=(scan_Valid.f k l0 256).bind fun t121=>(if t121=true then (scan_Count.l0 k 0 l0 (l0.length:Int) 0) else (some (0,2)))
theorem scan_Count.mono_l : ∀ k, (∀ y0 y1 y2 y3, LeO (scan_Count.l0 k y0 y1 y2 y3) (scan_Count.l0 (k + 1) y0 y1 y2 y3))
 | 0=>fun _ _ _ _ r h=>by simp [scan_Count.l0] at h
 | k+1=>by
  have ih0:=scan_Count.mono_l k
  ·intro y0 y1 y2 y3
   unfold scan_Count.l0
   repeat' first
   | (with_reducible exact ih0 _ _ _ _)
   | (with_reducible exact scan_Valid.mono _ _ _)
   | (with_reducible exact LeO.refl _)
   | (with_reducible exact LeO.none _)
   | (with_reducible refine LeO.ite ?_ ?_)
   | (with_reducible refine LeO.bind ?_ (fun _=>?_))
   | exact ih0 _ _ _ _
   | exact scan_Valid.mono _ _ _
   | exact LeO.none _
   | refine LeO.ite ?_ ?_
   | refine LeO.bind ?_ (fun _=>?_)
theorem scan_Count.mono : ∀ a0 k,LeO (scan_Count.f k a0) (scan_Count.f (k+1) a0):=by
 intro a0 k
 have ih0:=scan_Count.mono_l k
 unfold scan_Count.f
 repeat' first
   | (with_reducible exact ih0 _ _ _ _)
   | (with_reducible exact scan_Valid.mono _ _ _)
   | (with_reducible exact LeO.refl _)
   | (with_reducible exact LeO.none _)
   | (with_reducible refine LeO.ite ?_ ?_)
   | (with_reducible refine LeO.bind ?_ (fun _=>?_))
   | exact ih0 _ _ _ _
   | exact scan_Valid.mono _ _ _
   | exact LeO.none _
   | refine LeO.ite ?_ ?_
   | refine LeO.bind ?_ (fun _=>?_)
set_option maxHeartbeats 8000000 in
theorem scan_Count.calls (k : Nat) (A0 : Option Addr) (c0 : Nat) (l0 : List (S36)) (r1 : Int) (r2 : Int) (w : World) (hr0 : Kd.C k36 w A0 l0.length l0) (hc0 : l0.length ≤ c0) (h : scan_Count.f k l0 = some (r1, r2)) :
  Calls Try.prog 8 #[.slice A0 l0.length c0] w fun e w'=>e = .returned (.tuple #[.int .i64 r1,.int .i64 r2])∧Below w.heap.size w w':=by
 have hu36:=Try.underlying36
 have HR0:=aK hr0
 have HC0:=aK hc0
 clear hr0 hc0
 have HB:=aK (Below.refl w.heap.size w)
 have H:((scan_Valid.f k l0 256).bind fun t121=>(if t121=true then (scan_Count.l0 k 0 l0 (l0.length:Int) 0) else (some (0,2))))=some (r1,r2):=h
 clear h
 replace H:=Option.bind_eq_some_iff.mp H
 obtain ⟨t121,A20,H⟩:=H
 replace H:(if t121=true then (scan_Count.l0 k 0 l0 (l0.length:Int) 0) else (some (0,2)))=some (r1,r2):=H
 have A2:=aK A20
 clear A20
 by_cases c3:t121=true
 ·subst c3
  have H1:(scan_Count.l0 k 0 l0 (l0.length:Int) 0)=some (r1,r2):=by rw [if_pos rfl] at H;exact H
  clear H
  have H:=H1
  clear H1
  have H':=aK H
  clear H
  go_enter Try.func8,Try.ntmps8
  go_wp2_with ((with_reducible refine gate_callee (f:=18) rfl ?_);refine goesL_ (some 8) rfl rfl Try.func18 (by kernel_rfl) rfl #[.slice A0 l0.length c0,.int .i64 256] rfl (by (try simp only [List.map_toArray,List.map_cons,List.map_nil]);first|done|rfl|(simp only [List.length_drop,List.length_take];rfl)) ?_;(with_reducible refine (scan_Valid.calls k _ _ l0 256 true _ ?side1 ?side2 A2.out).mono ?_);(case side1=>repeat (first|exact HR0.out|(with_reducible refine Kd.C_alloc ?_ _)|(with_reducible refine Kd.C_drewN ?_ _)|(with_reducible refine Kd.C_drew ?_)));(case side2=>exact HC0.out);rintro e w4 ⟨rfl,hb⟩;refine ⟨_,rfl,?_⟩;have n0_:=aK (below_step (by repeat (first|(with_reducible first|exact HB.out|apply below_alloc|apply pw_below_drewN|apply below_drew1)|exact HB.out)) hb);clear HB;have HB:=n0_;clear n0_;(try clear hb);(try clear hb2);(try clear hk);(try clear hi))
  go_loopg [4,12] k (fun kq v4 v12 w'=>∃ (x4_1:Int) (x12_1:Int),v4 = .int .i64 x4_1∧v12 = .int .i64 x12_1∧Aside0 (scan_Count.l0 kq x4_1 l0 (l0.length:Int) x12_1=some (r1,r2))∧Aside0 (kq≤k)∧Aside0 (Below w.heap.size w w'))
  case atStart=>exact ⟨(0),(0),(by first|rfl|(simp;done)|(simp [*];done)),(by first|rfl|(simp;done)|(simp [*];done)),H',⟨Nat.le_refl _⟩,⟨by repeat (first|(with_reducible first|exact HB.out|apply below_alloc|apply pw_below_drewN|apply below_drew1)|exact HB.out)⟩⟩
  case round =>
   clear H'
   try clear c1
   try clear p2
   try clear c3
   obtain ⟨x4_1,x12_1,rfl,rfl,HA,HK1,HB⟩:=hrel
   cases gk with
   | zero=>exact absurd HA.out (by simp [scan_Count.l0])
   | succ k1 =>
    have H:=HA.out
    clear HA
    simp only [scan_Count.l0] at H
    by_cases c5:x12_1<(l0.length:Int)
    ·rw [if_pos c5] at H
     have c5b0:decide (x12_1<(l0.length:Int))=true:=decide_eq_true c5
     clear c5
     by_cases c6:0≤x12_1
     ·rw [if_pos c6] at H
      have c6b0:decide (0≤x12_1)=true:=decide_eq_true c6
      clear c6
      by_cases c7:x12_1<(l0.length:Int)
      ·rw [if_pos c7] at H
       have c7b0:decide (x12_1<(l0.length:Int))=true:=decide_eq_true c7
       clear c7
       have H':=aK H
       clear H
       have p122:0≤(x12_1:Int):=of_decide_eq_true (by first|(with_reducible assumption)|assumption)
       have q122:x12_1<(l0.length:Int):=of_decide_eq_true (by first|(with_reducible assumption)|assumption)
       obtain ⟨ad122,e122,hx122_0,hx122_1⟩:=at_T36 HR0.out x12_1 p122 q122
       cases e122
       replace hx122_0:=(HB.out.cell (World.block_lt_of_cell? w _ hx122_0)).trans hx122_0
       replace hx122_1:=(HB.out.cell (World.block_lt_of_cell? w _ hx122_1)).trans hx122_1
       replace p122:=eq_true p122
       replace q122:=eq_true q122
       go_wp2_with ((with_reducible refine gate_dst (N:=6) rfl ?_);refine box_event ?hg (N:=6) ?hd (cs:=#[.int .i64 0,.int .i64 0]) (t:=36) ?hr ?_;(case hd=>rfl);(case hg=>rfl);(case hr=>first|(go_simp;done)|(go_simp;rfl));intro gb123 hg w8 hbox hb;have n0_:=aK (below_step (by repeat (first|(with_reducible first|exact HB.out|apply below_alloc|apply pw_below_drewN|apply below_drew1)|exact HB.out)) hb);have n1_:=aK (hbox);have n2_:=aK ((by rw [hg];exact (below_size (by repeat (first|(with_reducible first|exact HB.out|apply below_alloc|apply pw_below_drewN|apply below_drew1)|exact HB.out))):w.heap.size≤gb123));have n3_:=n2_;clear HB;have HB:=n0_;have BK123:=n1_;have GW123:=n2_;have GE123:=n3_;clear n0_ n1_ n2_ n3_;clear hb hbox hg;have hcz9_0:w8.cell? ⟨gb123,0,none⟩=some (.int .i64 0):=(blk_cell BK123.out 0).trans rfl;have hcz9_1:w8.cell? ⟨gb123,1,none⟩=some (.int .i64 0):=(blk_cell BK123.out 1).trans rfl;have hfz9_0:=blk_frozen BK123.out 0;have hfz9_1:=blk_frozen BK123.out 1)
       go_roundg k1
       case measure=>have:=HK1.out;omega
       case rel=>exact ⟨(wrap64 (x4_1+(wrap64 (((rd_T36 l0 x12_1).f1)-((rd_T36 l0 x12_1).f0))))),(wrap64 (x12_1+1)),(by first|rfl|(simp;done)|(simp [*];done)),(by first|rfl|(simp;done)|(simp [*];done)),H',⟨by have:=HK1.out;omega⟩,⟨by repeat (first|(with_reducible first|exact HB.out|apply below_alloc|apply pw_below_drewN|apply below_drew1|refine below_set ?_ GE123.out)|exact HB.out)⟩⟩
      ·rw [if_neg c7] at H
       exact absurd H (by simp)
     ·rw [if_neg c6] at H
      exact absurd H (by simp)
    ·rw [if_neg c5] at H
     have c5b0:decide (x12_1<(l0.length:Int))=false:=decide_eq_false c5
     clear c5
     simp only [Option.some.injEq,Prod.mk.injEq] at H
     obtain ⟨rfl,rfl⟩:=H
     go_wp2
     go_ret2
     exact ⟨by first|rfl|(simp [errW_none,errW_some] <;> rfl)|(simp [*,errW_none,errW_some] <;> rfl),by repeat (first|(with_reducible first|exact HB.out|apply below_alloc|apply pw_below_drewN|apply below_drew1)|exact HB.out)⟩
 ·replace c3:=Bool.eq_false_iff.mpr c3
  subst c3
  have H1:(some (0,2))=some (r1,r2):=by rw [if_neg (show ¬ (false=true) by decide)] at H;exact H
  clear H
  have H:=H1
  clear H1
  simp only [Option.some.injEq,Prod.mk.injEq] at H
  obtain ⟨rfl,rfl⟩:=H
  go_enter Try.func8,Try.ntmps8
  go_wp2_with ((with_reducible refine gate_callee (f:=18) rfl ?_);refine goesL_ (some 8) rfl rfl Try.func18 (by kernel_rfl) rfl #[.slice A0 l0.length c0,.int .i64 256] rfl (by (try simp only [List.map_toArray,List.map_cons,List.map_nil]);first|done|rfl|(simp only [List.length_drop,List.length_take];rfl)) ?_;(with_reducible refine (scan_Valid.calls k _ _ l0 256 false _ ?side1 ?side2 A2.out).mono ?_);(case side1=>repeat (first|exact HR0.out|(with_reducible refine Kd.C_alloc ?_ _)|(with_reducible refine Kd.C_drewN ?_ _)|(with_reducible refine Kd.C_drew ?_)));(case side2=>exact HC0.out);rintro e w10 ⟨rfl,hb⟩;refine ⟨_,rfl,?_⟩;have n0_:=aK (below_step (by repeat (first|(with_reducible first|exact HB.out|apply below_alloc|apply pw_below_drewN|apply below_drew1)|exact HB.out)) hb);clear HB;have HB:=n0_;clear n0_;(try clear hb);(try clear hb2);(try clear hk);(try clear hi))
  go_ret2
  exact ⟨by first|rfl|(simp [errW_none,errW_some] <;> rfl)|(simp [*,errW_none,errW_some] <;> rfl),by repeat (first|(with_reducible first|exact HB.out|apply below_alloc|apply pw_below_drewN|apply below_drew1)|exact HB.out)⟩
def fleuronref19_Same.l0 : Nat → List (S36) → List (S36) → Int → Int → Option (Bool)
 | 0,_,_,_,_=>none
 | k+1,x0,x1,x12,x13=>if x13<x12 then (if 0≤x13 then (if x13<(x0.length:Int) then (if x13<(x1.length:Int) then (if (!(((rd_T36 x0 x13).f0) == ((rd_T36 x1 x13).f0)) || (!(((rd_T36 x0 x13).f1) == ((rd_T36 x1 x13).f1))))=true then (some false) else (fleuronref19_Same.l0 k x0 x1 x12 (wrap64 (x13+1)))) else (none)) else (none)) else (none)) else (some true)
def fleuronref19_Same.f (k:Nat) (l0:List (S36)) (l1:List (S36)):Option (Bool):=if (l0.length:Int)=(l1.length:Int) then (fleuronref19_Same.l0 k l0 l1 (l0.length:Int) 0) else (some false)
theorem fleuronref19_Same.mono_l : ∀ k, (∀ y0 y1 y2 y3, LeO (fleuronref19_Same.l0 k y0 y1 y2 y3) (fleuronref19_Same.l0 (k + 1) y0 y1 y2 y3))
 | 0=>fun _ _ _ _ r h=>by simp [fleuronref19_Same.l0] at h
 | k+1=>by
  have ih0:=fleuronref19_Same.mono_l k
  ·intro y0 y1 y2 y3
   unfold fleuronref19_Same.l0
   repeat' first
   | (with_reducible exact ih0 _ _ _ _)
   | (with_reducible exact LeO.refl _)
   | (with_reducible exact LeO.none _)
   | (with_reducible refine LeO.ite ?_ ?_)
   | (with_reducible refine LeO.bind ?_ (fun _=>?_))
   | exact ih0 _ _ _ _
   | exact LeO.none _
   | refine LeO.ite ?_ ?_
   | refine LeO.bind ?_ (fun _=>?_)
theorem fleuronref19_Same.mono : ∀ a0 a1 k,LeO (fleuronref19_Same.f k a0 a1) (fleuronref19_Same.f (k+1) a0 a1):=by
 intro a0 a1 k
 have ih0:=fleuronref19_Same.mono_l k
 unfold fleuronref19_Same.f
 repeat' first
   | (with_reducible exact ih0 _ _ _ _)
   | (with_reducible exact LeO.refl _)
   | (with_reducible exact LeO.none _)
   | (with_reducible refine LeO.ite ?_ ?_)
   | (with_reducible refine LeO.bind ?_ (fun _=>?_))
   | exact ih0 _ _ _ _
   | exact LeO.none _
   | refine LeO.ite ?_ ?_
   | refine LeO.bind ?_ (fun _=>?_)
set_option maxHeartbeats 8000000 in
theorem fleuronref19_Same.calls (k : Nat) (A0 : Option Addr) (c0 : Nat) (l0 : List (S36)) (A1 : Option Addr) (c1 : Nat) (l1 : List (S36)) (r : Bool) (w : World) (hr0 : Kd.C k36 w A0 l0.length l0) (hc0 : l0.length ≤ c0) (hr1 : Kd.C k36 w A1 l1.length l1) (hc1 : l1.length ≤ c1) (h : fleuronref19_Same.f k l0 l1 = some r) :
  Calls Try.prog 9 #[.slice A0 l0.length c0,.slice A1 l1.length c1] w fun e w'=>e = .returned (.bool r)∧Drawn0 w w':=by
 have hu36:=Try.underlying36
 have HR0:=aK hr0
 have HC0:=aK hc0
 clear hr0 hc0
 have HR1:=aK hr1
 have HC1:=aK hc1
 clear hr1 hc1
 have H:(if (l0.length:Int)=(l1.length:Int) then (fleuronref19_Same.l0 k l0 l1 (l0.length:Int) 0) else (some false))=some r:=h
 clear h
 by_cases c3:(l0.length:Int)=(l1.length:Int)
 ·rw [if_pos c3] at H
  have c3b0:((l0.length:Int) == (l1.length:Int))=true:=beq_iff_eq.mpr c3
  have c3b1:((l0.length:Int) != (l1.length:Int))=false:=bne_eq_false_iff_eq.mpr c3
  have c3b2:(l0.length == l1.length)=true:=by first|simpa using c3|(simp at c3 ⊢;omega)
  clear c3
  have H':=aK H
  clear H
  go_enter Try.func9,Try.ntmps9
  go_wp2
  repeat (go_quiet (fail);try go_wp2)
  go_loopg [13] k (fun kq v13 w'=>∃ (x13_1:Int),v13 = .int .i64 x13_1∧Aside0 (fleuronref19_Same.l0 kq l0 l1 (l0.length:Int) x13_1=some r)∧Aside0 (kq≤k)∧Drawn0 w w')
  case atStart=>exact ⟨(0),(by first|rfl|(simp;done)|(simp [*];done)),H',⟨Nat.le_refl _⟩,by repeat (first|exact Drawn0.refl _|apply Drawn0.step)⟩
  case round =>
   clear H'
   try clear c1
   try clear p2
   try clear c3
   try clear c3b0
   try clear c3b1
   try clear c3b2
   obtain ⟨x13_1,rfl,HA,HK1,⟨m1,rfl⟩⟩:=hrel
   cases gk with
   | zero=>exact absurd HA.out (by simp [fleuronref19_Same.l0])
   | succ k1 =>
    have H:=HA.out
    clear HA
    simp only [fleuronref19_Same.l0] at H
    by_cases c4:x13_1<(l0.length:Int)
    ·rw [if_pos c4] at H
     have c4b0:decide (x13_1<(l0.length:Int))=true:=decide_eq_true c4
     clear c4
     by_cases c5:0≤x13_1
     ·rw [if_pos c5] at H
      have c5b0:decide (0≤x13_1)=true:=decide_eq_true c5
      clear c5
      by_cases c6:x13_1<(l0.length:Int)
      ·rw [if_pos c6] at H
       have c6b0:decide (x13_1<(l0.length:Int))=true:=decide_eq_true c6
       clear c6
       by_cases c7:x13_1<(l1.length:Int)
       ·rw [if_pos c7] at H
        have c7b0:decide (x13_1<(l1.length:Int))=true:=decide_eq_true c7
        clear c7
        by_cases c8:(!(((rd_T36 l0 x13_1).f0) == ((rd_T36 l1 x13_1).f0)) || (!(((rd_T36 l0 x13_1).f1) == ((rd_T36 l1 x13_1).f1))))=true
        ·rw [if_pos c8] at H
         have c8b0:(!(((rd_T36 l0 x13_1).f0) == ((rd_T36 l1 x13_1).f0)) || (!(((rd_T36 l0 x13_1).f1) == ((rd_T36 l1 x13_1).f1))))=true:=c8
         clear c8
         obtain rfl:=Option.some.inj H
         have p124:0≤(x13_1:Int):=of_decide_eq_true (by first|(with_reducible assumption)|assumption)
         have q124:x13_1<(l0.length:Int):=of_decide_eq_true (by first|(with_reducible assumption)|assumption)
         obtain ⟨ad124,e124,hx124_0,hx124_1⟩:=at_T36 HR0.out x13_1 p124 q124
         cases e124
         replace p124:=eq_true p124
         replace q124:=eq_true q124
         have p125:0≤(x13_1:Int):=of_decide_eq_true (by first|(with_reducible assumption)|assumption)
         have q125:x13_1<(l1.length:Int):=of_decide_eq_true (by first|(with_reducible assumption)|assumption)
         obtain ⟨ad125,e125,hx125_0,hx125_1⟩:=at_T36 HR1.out x13_1 p125 q125
         cases e125
         replace p125:=eq_true p125
         replace q125:=eq_true q125
         go_wp2
         repeat (go_quiet (fail);try go_wp2)
         go_ret
         exact ⟨by first|rfl|(simp;done)|(simp [*];done),by repeat (first|exact Drawn0.refl _|apply Drawn0.step)⟩
        ·rw [if_neg c8] at H
         have c8b0:(!(((rd_T36 l0 x13_1).f0) == ((rd_T36 l1 x13_1).f0)) || (!(((rd_T36 l0 x13_1).f1) == ((rd_T36 l1 x13_1).f1))))=false:=by simpa using c8
         clear c8
         have H':=aK H
         clear H
         have p124:0≤(x13_1:Int):=of_decide_eq_true (by first|(with_reducible assumption)|assumption)
         have q124:x13_1<(l0.length:Int):=of_decide_eq_true (by first|(with_reducible assumption)|assumption)
         obtain ⟨ad124,e124,hx124_0,hx124_1⟩:=at_T36 HR0.out x13_1 p124 q124
         cases e124
         replace p124:=eq_true p124
         replace q124:=eq_true q124
         have p125:0≤(x13_1:Int):=of_decide_eq_true (by first|(with_reducible assumption)|assumption)
         have q125:x13_1<(l1.length:Int):=of_decide_eq_true (by first|(with_reducible assumption)|assumption)
         obtain ⟨ad125,e125,hx125_0,hx125_1⟩:=at_T36 HR1.out x13_1 p125 q125
         cases e125
         replace p125:=eq_true p125
         replace q125:=eq_true q125
         go_wp2
         repeat (go_quiet (fail);try go_wp2)
         go_roundg k1
         case measure=>have:=HK1.out;omega
         case rel=>exact ⟨(wrap64 (x13_1+1)),(by first|rfl|(simp;done)|(simp [*];done)),H',⟨by have:=HK1.out;omega⟩,by repeat (first|exact Drawn0.refl _|apply Drawn0.step)⟩
       ·rw [if_neg c7] at H
        exact absurd H (by simp)
      ·rw [if_neg c6] at H
       exact absurd H (by simp)
     ·rw [if_neg c5] at H
      exact absurd H (by simp)
    ·rw [if_neg c4] at H
     have c4b0:decide (x13_1<(l0.length:Int))=false:=decide_eq_false c4
     clear c4
     obtain rfl:=Option.some.inj H
     go_wp2
     repeat (go_quiet (fail);try go_wp2)
     go_ret
     exact ⟨by first|rfl|(simp;done)|(simp [*];done),by repeat (first|exact Drawn0.refl _|apply Drawn0.step)⟩
 ·rw [if_neg c3] at H
  have c3b0:((l0.length:Int) == (l1.length:Int))=false:=beq_eq_false_iff_ne.mpr c3
  have c3b1:((l0.length:Int) != (l1.length:Int))=true:=bne_iff_ne.mpr c3
  have c3b2:(l0.length == l1.length)=false:=by first|simpa using c3|(simp at c3 ⊢;omega)
  obtain rfl:=Option.some.inj H
  go_enter Try.func9,Try.ntmps9
  go_wp2
  repeat (go_quiet (fail);try go_wp2)
  go_ret
  exact ⟨by first|rfl|(simp;done)|(simp [*];done),by repeat (first|exact Drawn0.refl _|apply Drawn0.step)⟩
end Go.Proofs.Ytckjlckhjcbddaa.PH3
