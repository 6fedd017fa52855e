import Derived.Test.YtoemkemmiikhlaaGreatPF2x0
import Derived.Test.YtoemkemmiikhlaaGreatPF2x1
import Derived.Test.YtoemkemmiikhlaaGreatPF2x2
import Derived.Test.YtoemkemmiikhlaaGreatPF2x3
import Derived.Test.YtoemkemmiikhlaaGreatPF2x17
namespace Go.Proofs.YtoemkemmiikhlaaGreat.PF2
open Go.RowKit Go.Proofs.YtoemkemmiikhlaaGreatW.PrintWords Go.Proofs.YtoemkemmiikhlaaGreatW.PrintLast Go.Proofs.YtoemkemmiikhlaaGreatW.PrintMore
attribute [local go_sem] max2_int min2_int max_two min_two max_three min_three max_four min_four
set_option linter.unusedVariables false
set_option linter.unusedSimpArgs false
theorem codeW_is (n:Int):fleuronref27_code.f n=some (codeB n):=by
 unfold fleuronref27_code.f codeB
 by_cases h:n≥0
 ·rw [if_pos h,decide_eq_true (show 0≤n from h)];rfl
 ·rw [if_neg h,decide_eq_false (show ¬ 0≤n from h)];rfl
theorem coordW_is (n:Int):fleuronref27_coord.f n=some (coordB n):=by
 unfold fleuronref27_coord.f coordB
 by_cases h:n≥-268435455
 ·rw [if_pos h,decide_eq_true (show -268435455≤n from h)];rfl
 ·rw [if_neg h,decide_eq_false (show ¬ -268435455≤n from h)];rfl
theorem ruleW_is (x:S45):fleuronref27_rule.f 1 x.f0 x.f1 x.f2 x.f3=some (okR x):=by
 unfold fleuronref27_rule.f okR
 rw [codeW_is,codeW_is]
 have ht : ∀ b a0 a1 a2 a3,b=true→fleuronref27_rule.j0 (0+1) b a0 a1 a2 a3=some false:=fun b a0 a1 a2 a3 h=>by rw [fleuronref27_rule.j0,if_pos h]
 have hf:fleuronref27_rule.j0 (0+1) false x.f0 x.f1 x.f2 x.f3=some (if x.f2=0 then coordB x.f3 else codeB x.f3):=by
  rw [fleuronref27_rule.j0,if_neg (by simp)]
  by_cases h:x.f2=0
  ·rw [if_pos h,if_pos h,coordW_is];cases coordB x.f3 <;> rfl
  ·rw [if_neg h,if_neg h,codeW_is];rfl
 by_cases h1:x.f2<0
 ·rw [if_pos h1,ht _ _ _ _ _ rfl,decide_eq_false (show ¬ 0≤x.f2 by omega)];simp
 by_cases h2:x.f2>4
 ·rw [if_neg h1,if_pos h2,ht _ _ _ _ _ rfl,decide_eq_false (show ¬ x.f2≤4 by omega)];simp
 rw [if_neg h1,if_neg h2,decide_eq_true (show 0≤x.f2 by omega),decide_eq_true (show x.f2≤4 by omega)]
 generalize hq:(if x.f2=0 then coordB x.f3 else codeB x.f3)=q at *
 cases codeB x.f0
 ·simp [ht]
 ·cases codeB x.f1
  ·simp [ht]
  ·simp [hf]
theorem okR_code {x:S45} (h:okR x=true):(0≤x.f0∧x.f0≤255)∧(0≤x.f1∧x.f1≤255):=by
 unfold okR codeB at h
 simp only [Bool.and_eq_true,decide_eq_true_eq] at h
 omega
theorem lessR_is {x y:S45} (hx:okR x=true) (hy:okR y=true):lessR x y=decide (256*x.f0+x.f1<256*y.f0+y.f1):=by
 have h1:=okR_code hx
 have h2:=okR_code hy
 unfold lessR cmpR cmpI
 by_cases a1:x.f0<y.f0
 ·rw [if_pos a1,if_neg (by decide),decide_eq_true (show 256*x.f0+x.f1<256*y.f0+y.f1 by omega)];rfl
 ·rw [if_neg a1]
  by_cases a2:y.f0<x.f0
  ·rw [if_pos a2,if_neg (by decide),decide_eq_false (show ¬ 256*x.f0+x.f1<256*y.f0+y.f1 by omega)];rfl
  ·rw [if_neg a2,if_pos rfl]
   by_cases a3:x.f1<y.f1
   ·rw [if_pos a3,decide_eq_true (show 256*x.f0+x.f1<256*y.f0+y.f1 by omega)];rfl
   ·rw [if_neg a3,decide_eq_false (show ¬ 256*x.f0+x.f1<256*y.f0+y.f1 by omega)]
    by_cases a4:y.f1<x.f1
    ·rw [if_pos a4];rfl
    ·rw [if_neg a4];rfl
def pairN (x:S45):Int:=256*x.f0+x.f1
theorem pairW_is {x:S45} (hx:okR x=true):fleuronref27_pair.f x.f0 x.f1 x.f2 x.f3=some (pairN x):=by
 have h1:=okR_code hx
 unfold fleuronref27_pair.f pairN
 rw [show wrap64 (256*x.f0)=256*x.f0 by unfold wrap64;omega,show wrap64 (256*x.f0+x.f1)=256*x.f0+x.f1 by unfold wrap64;omega]
theorem chainB_at {α : Type} (r : α → α → Bool) : ∀ l : List α, chainB r l = true ↔ ∀ j (h : j + 1 < l.length), r l[j] l[j + 1] = true
 | []=>by simp [chainB]
 | [x]=>by simp [chainB]
 | x::y::l=>by
  rw [chainB,Bool.and_eq_true,chainB_at r (y::l)]
  constructor
  ·rintro ⟨h1,h2⟩ j hj
   cases j with
   | zero=>exact h1
   | succ j=>exact h2 j (by simpa using hj)
  ·intro h
   exact ⟨h 0 (by simp),fun j hj=>h (j+1) (by simpa using hj)⟩
def okTo (rs:List S45) (i:Nat):Prop:=∀ j (h:j<rs.length),j<i→okR rs[j]=true∧(0<j→pairN rs[j-1]<pairN rs[j])
theorem okTo_next {rs:List S45} {i:Nat} (h:okTo rs i) (hi:i<rs.length) (h1:okR rs[i]=true) (h2:0<i→pairN rs[i-1]<pairN rs[i]):okTo rs (i+1):=fun j hj hji=>by
 rcases Nat.lt_or_ge j i with h3|h3
 ·exact h j hj h3
 ·obtain rfl:j=i:=by omega
  exact ⟨h1,h2⟩
theorem okTo_end {rs:List S45} (h:okTo rs rs.length):validR rs=decide (rs.length≤500):=by
 have h1:rs.all okR=true:=List.all_eq_true.mpr fun x hx=>by
  obtain ⟨j,hj,rfl⟩:=List.getElem_of_mem hx
  exact (h j hj hj).1
 have h2:chainB lessR rs=true:=(chainB_at lessR rs).mpr fun j hj=>by
  rw [lessR_is (h j (by omega) (by omega)).1 (h (j+1) hj hj).1]
  exact decide_eq_true ((h (j+1) hj hj).2 (by omega))
 rw [validR,h1,h2]
 simp
theorem okTo_not {rs:List S45} {i:Nat} (hi:i<rs.length) (hn : ¬ (okR rs[i]=true∧(0<i→pairN rs[i-1]<pairN rs[i]))):validR rs=false:=by
 cases h:validR rs with
 | false=>rfl
 | true =>
  exfalso
  unfold validR at h
  simp only [Bool.and_eq_true] at h
  have ho : ∀ j (hj:j<rs.length),okR rs[j]=true:=fun j hj=>List.all_eq_true.mp h.2.1 _ (List.getElem_mem hj)
  refine hn ⟨ho i hi,fun h0=>?_⟩
  obtain ⟨j,rfl⟩ : ∃ m,i=m+1:=⟨i-1,by omega⟩
  have:=(chainB_at lessR rs).mp h.2.2 j hi
  rw [lessR_is (ho j (by omega)) (ho (j+1) hi)] at this
  exact of_decide_eq_true this
def fleuronref27_Rules.f (k:Nat) (l0:List S45):Option Bool:=if l0.length≤1000000 then some (validR l0) else none
set_option maxHeartbeats 8000000 in
set_option maxRecDepth 100000 in
theorem fleuronref27_Rules.calls (k : Nat) (A0 : Option Addr) (c0 : Nat) (l0 : List S45) (r : Bool) (w : World) (hr0 : Kd.C k45 w A0 l0.length l0) (hc0 : l0.length ≤ c0) (h : fleuronref27_Rules.f k l0 = some r) :
  Calls Tryz.prog 40 #[.slice A0 l0.length c0] w fun e w'=>e = .returned (.bool r)∧Below w.heap.size w w':=by
 have hu:=Tryz.underlying45
 obtain ⟨hl,hq⟩:l0.length≤1000000∧validR l0=r:=by
  unfold fleuronref27_Rules.f at h
  by_cases h1:l0.length≤1000000
  ·rw [if_pos h1] at h;exact ⟨h1,Option.some.inj h⟩
  ·rw [if_neg h1] at h;cases h
 have HL:=aK hl
 have HQ:=aK hq
 have HR:=aK hr0
 clear h hl hq hr0 hc0
 go_enter Tryz.func40,Tryz.ntmps40
 go_wp2
 go_loopg [7] l0.length (fun gg s7 wr=>∃ i:Nat,i≤l0.length∧l0.length-i≤gg∧s7 = .int .i64 i∧Aside0 (okTo l0 i)∧Aside0 (Below w.heap.size w wr))
 case atStart=>exact ⟨0,by omega,by omega,rfl,⟨fun j h hj=>absurd hj (by omega)⟩,⟨Below.refl _ _⟩⟩
 case round =>
  obtain ⟨i,hi,hg,rfl,HO,HB⟩:=hrel
  by_cases hlt:i<l0.length
  ·have hlti:(i:Int)<(l0.length:Int):=by omega
   have hi0:(0:Int)≤(i:Int):=by omega
   obtain ⟨ad,e1,x0,x1,x2,x3⟩:=at_T45 HR.out (i:Int) (by omega) (by omega)
   simp only [Int.toNat_natCast] at x0 x1 x2 x3
   replace x0:=(HB.out.cell (World.block_lt_of_cell? w _ x0)).trans x0
   replace x1:=(HB.out.cell (World.block_lt_of_cell? w _ x1)).trans x1
   replace x2:=(HB.out.cell (World.block_lt_of_cell? w _ x2)).trans x2
   replace x3:=(HB.out.cell (World.block_lt_of_cell? w _ x3)).trans x3
   have hrd:rd_T45 l0 (i:Int)=l0[i]:=by simp [rd_T45,List.getD_eq_getElem?_getD,hlt]
   have HSTEP:=aK (show wrap64 ((i:Int)+1)=((i+1:Nat):Int) by have:=HL.out;unfold wrap64;omega)
   have HNX:=aK (fun h1 h2=>okTo_next HO.out hlt h1 h2)
   have HNO:=aK (fun h=>HQ.out.symm.trans (okTo_not (rs:=l0) hlt h))
   have HMEM:=aK (fun (h0:0<i)=>(show rd_T45 l0 ((i-1:Nat):Int)=l0[i-1] by simp [rd_T45,List.getD_eq_getElem?_getD,show i-1<l0.length by omega]))
   rw [← hrd] at HNX HNO
   generalize rd_T45 l0 (i:Int)=x at *
   have HR4:=aK (fun V=>fleuronref27_rule.calls 1 x.f0 x.f1 x.f2 x.f3 (okR x) V (ruleW_is x))
   subst e1
   have B1:=aK (below_drew1 (below_alloc HB.out (.cells #[.int .i64 x.f0,.int .i64 x.f1,.int .i64 x.f2,.int .i64 x.f3] 45)))
   have X1:=blk_drew (blk_new wr (.cells #[.int .i64 x.f0,.int .i64 x.f1,.int .i64 x.f2,.int .i64 x.f3] 45))
   have P0:=aK ((blk_cell X1 0).trans rfl)
   have P1:=aK ((blk_cell X1 1).trans rfl)
   have P2:=aK ((blk_cell X1 2).trans rfl)
   have P3:=aK ((blk_cell X1 3).trans rfl)
   clear hrd X1
   go_upto_region 4 with (fail)
   generalize wr.heap.size=b4 at *
   generalize wr.alloc (.cells #[.int .i64 x.f0,.int .i64 x.f1,.int .i64 x.f2,.int .i64 x.f3] 45)=V4 at *
   clear x0 x1 x2 x3
   cases hok:okR x with
   | false =>
    have HF:Aside0 (r=false):=⟨HNO.out (fun h=>by rw [hok] at h;cases h.1)⟩
    rw [hok] at HR4
    clear hok HNX HNO HMEM
    refine start_ (n:=18) (S:=fun w'=>w'.cell? ⟨b4,0,none⟩=some (.int .i64 x.f0)∧w'.cell? ⟨b4,1,none⟩=some (.int .i64 x.f1)∧w'.cell? ⟨b4,2,none⟩=some (.int .i64 x.f2)∧w'.cell? ⟨b4,3,none⟩=some (.int .i64 x.f3)) (ds:=[]) #[false,false,false,false,false,false,false,false,false,false,false,false,false,false,false,false,false,false] (by kernel_rfl) rfl rfl ⟨P0.out,P1.out,P2.out,P3.out⟩ (fun hHeld=>?_)
    refine tk 0 (some 12) ?_ rfl rfl (by kernel_rfl) (fun _ _ _ h=>h) (.inl ⟨by rfl,?_⟩) hHeld ?_ ?_ ?_;rotate_left;rintro w' ⟨s0,s1,s2,s3⟩;go_simp;with_reducible rfl;rotate_left;simp only [nS];rfl
    refine one_ (i:=1) (N:=some 13) #[true,true,false,false,false,false,false,false,false,false,false,false,false,false,false,false,false,false] rfl rfl (by kernel_rfl) (by decide) (fun K hK=>?_)
    refine goes_ Tryz.func56 (by kernel_rfl) rfl #[.agg #[.int .i64 x.f0,.int .i64 x.f1,.int .i64 x.f2,.int .i64 x.f3]] (by rfl) rfl rfl (by simp only [List.map_toArray,List.map_cons,List.map_nil];rfl) ?_
    refine (HR4.out _).mono ?_
    rintro e Wa ⟨rfl,hb⟩
    have Ba:=aK (below_step B1.out hb)
    refine ⟨_,rfl,?_⟩
    refine hK.out _ _ ⟨(hb.cell (World.block_lt_of_cell? _ _ hHeld.1)).trans hHeld.1,(hb.cell (World.block_lt_of_cell? _ _ hHeld.2.1)).trans hHeld.2.1,(hb.cell (World.block_lt_of_cell? _ _ hHeld.2.2.1)).trans hHeld.2.2.1,(hb.cell (World.block_lt_of_cell? _ _ hHeld.2.2.2)).trans hHeld.2.2.2⟩ (fun hHeld=>?_)
    clear hK K
    refine norm_ (a':=?_) ?_ ?_;rotate_left;show Act.put _ (some 13) _=_;simp only [nS];rfl
    refine pu 2 (some 14) ?_ rfl rfl (by kernel_rfl) (fun _ _ _ h=>h) (.inl ⟨by rfl,?_⟩) ?_ ?_ ?_;rotate_left;intro w';go_simp;with_reducible rfl;rotate_left;simp only [nS];rfl
    refine pu 3 (some 15) ?_ rfl rfl (by kernel_rfl) (fun _ _ _ h=>h) (.inl ⟨by rfl,?_⟩) ?_ ?_ ?_;rotate_left;intro w';go_simp;with_reducible rfl;rotate_left;simp only [nS];rfl
    refine pu 4 (some 16) undef rfl rfl (by kernel_rfl) (fun _ _ _ h=>h) (.inr ⟨by rfl,rfl⟩) ?_ ?_ ?_;rotate_left;simp only [nS];rfl
    refine pu 5 (some 17) undef rfl rfl (by kernel_rfl) (fun _ _ _ h=>h) (.inr ⟨by rfl,rfl⟩) ?_ ?_ ?_;rotate_left;simp only [nS];rfl
    refine pu 6 (some 18) undef rfl rfl (by kernel_rfl) (fun _ _ _ h=>h) (.inr ⟨by rfl,rfl⟩) ?_ ?_ ?_;rotate_left;simp only [nS];rfl
    refine pu 7 (some 19) undef rfl rfl (by kernel_rfl) (fun _ _ _ h=>h) (.inr ⟨by rfl,rfl⟩) ?_ ?_ ?_;rotate_left;simp only [nS];rfl
    refine pu 8 (some 20) undef rfl rfl (by kernel_rfl) (fun _ _ _ h=>h) (.inr ⟨by rfl,rfl⟩) ?_ ?_ ?_;rotate_left;simp only [nS];rfl
    refine pu 9 (some 21) undef rfl rfl (by kernel_rfl) (fun _ _ _ h=>h) (.inr ⟨by rfl,rfl⟩) ?_ ?_ ?_;rotate_left;simp only [nS];rfl
    refine pu 10 (some 22) undef rfl rfl (by kernel_rfl) (fun _ _ _ h=>h) (.inr ⟨by rfl,rfl⟩) ?_ ?_ ?_;rotate_left;simp only [nS];rfl
    refine pu 11 (some 23) undef rfl rfl (by kernel_rfl) (fun _ _ _ h=>h) (.inr ⟨by rfl,rfl⟩) ?_ ?_ ?_;rotate_left;simp only [nS];rfl
    refine pu 12 (some 24) undef rfl rfl (by kernel_rfl) (fun _ _ _ h=>h) (.inr ⟨by rfl,rfl⟩) ?_ ?_ ?_;rotate_left;simp only [nS];rfl
    refine pu 13 (some 25) undef rfl rfl (by kernel_rfl) (fun _ _ _ h=>h) (.inr ⟨by rfl,rfl⟩) ?_ ?_ ?_;rotate_left;simp only [nS];rfl
    refine pu 14 (some 26) undef rfl rfl (by kernel_rfl) (fun _ _ _ h=>h) (.inr ⟨by rfl,rfl⟩) ?_ ?_ ?_;rotate_left;simp only [nS];rfl
    refine pu 15 (some 27) undef rfl rfl (by kernel_rfl) (fun _ _ _ h=>h) (.inr ⟨by rfl,rfl⟩) ?_ ?_ ?_;rotate_left;simp only [nS];rfl
    refine pu 16 (some 28) undef rfl rfl (by kernel_rfl) (fun _ _ _ h=>h) (.inr ⟨by rfl,rfl⟩) ?_ ?_ ?_;rotate_left;simp only [nS];rfl
    refine pu 17 (some 29) ?_ rfl rfl (by kernel_rfl) (fun _ _ _ h=>h) (.inl ⟨by rfl,?_⟩) ?_ ?_ ?_;rotate_left;intro w';go_simp;with_reducible rfl;rotate_left;simp only [nS];rfl
    refine done_ (by kernel_rfl) ?_
    go_wp2
    go_ret
    exact ⟨by rw [HF.out];rfl,Ba.out⟩
   | true =>
   rw [hok] at HR4
   rcases Nat.eq_zero_or_pos i with hz|hz
   ·subst hz
    have HN1:=aK (HNX.out hok (fun h=>absurd h (by omega)))
    have hgt:decide ((0:Int)<((0:Nat):Int))=false:=rfl
    have hgt2 : ¬ (0:Int)<((0:Nat):Int):=by omega
    clear hok HNX HNO HMEM
    refine start_ (n:=18) (S:=fun w'=>w'.cell? ⟨b4,0,none⟩=some (.int .i64 x.f0)∧w'.cell? ⟨b4,1,none⟩=some (.int .i64 x.f1)∧w'.cell? ⟨b4,2,none⟩=some (.int .i64 x.f2)∧w'.cell? ⟨b4,3,none⟩=some (.int .i64 x.f3)) (ds:=[]) #[false,false,false,false,false,false,false,false,false,false,false,false,false,false,false,false,false,false] (by kernel_rfl) rfl rfl ⟨P0.out,P1.out,P2.out,P3.out⟩ (fun hHeld=>?_)
    refine tk 0 (some 12) ?_ rfl rfl (by kernel_rfl) (fun _ _ _ h=>h) (.inl ⟨by rfl,?_⟩) hHeld ?_ ?_ ?_;rotate_left;rintro w' ⟨s0,s1,s2,s3⟩;go_simp;with_reducible rfl;rotate_left;simp only [nS];rfl
    refine one_ (i:=1) (N:=some 13) #[true,true,false,false,false,false,false,false,false,false,false,false,false,false,false,false,false,false] rfl rfl (by kernel_rfl) (by decide) (fun K hK=>?_)
    refine goes_ Tryz.func56 (by kernel_rfl) rfl #[.agg #[.int .i64 x.f0,.int .i64 x.f1,.int .i64 x.f2,.int .i64 x.f3]] (by rfl) rfl rfl (by simp only [List.map_toArray,List.map_cons,List.map_nil];rfl) ?_
    refine (HR4.out _).mono ?_
    rintro e Wa ⟨rfl,hb⟩
    have Ba:=aK (below_step B1.out hb)
    refine ⟨_,rfl,?_⟩
    refine hK.out _ _ ⟨(hb.cell (World.block_lt_of_cell? _ _ hHeld.1)).trans hHeld.1,(hb.cell (World.block_lt_of_cell? _ _ hHeld.2.1)).trans hHeld.2.1,(hb.cell (World.block_lt_of_cell? _ _ hHeld.2.2.1)).trans hHeld.2.2.1,(hb.cell (World.block_lt_of_cell? _ _ hHeld.2.2.2)).trans hHeld.2.2.2⟩ (fun hHeld=>?_)
    clear hK K
    refine norm_ (a':=?_) ?_ ?_;rotate_left;show Act.put _ (some 13) _=_;simp only [nS];rfl
    refine pu 2 (some 14) ?_ rfl rfl (by kernel_rfl) (fun _ _ _ h=>h) (.inl ⟨by rfl,?_⟩) ?_ ?_ ?_;rotate_left;intro w';go_simp;with_reducible rfl;rotate_left;simp only [nS];rfl
    refine pu 3 (some 15) ?_ rfl rfl (by kernel_rfl) (fun _ _ _ h=>h) (.inl ⟨by rfl,?_⟩) ?_ ?_ ?_;rotate_left;intro w';go_simp;with_reducible rfl;rotate_left;simp only [nS];rfl
    refine pu 4 (some 16) ?_ rfl rfl (by kernel_rfl) (fun _ _ _ h=>h) (.inl ⟨by rfl,?_⟩) ?_ ?_ ?_;rotate_left;intro w';go_simp;with_reducible rfl;rotate_left;simp only [nS];rfl
    refine pu 5 (some 17) ?_ rfl rfl (by kernel_rfl) (fun _ _ _ h=>h) (.inl ⟨by rfl,?_⟩) ?_ ?_ ?_;rotate_left;intro w';go_simp;with_reducible rfl;rotate_left;simp only [nS];rfl
    refine pu 6 (some 18) ?_ rfl rfl (by kernel_rfl) (fun _ _ _ h=>h) (.inl ⟨by rfl,?_⟩) ?_ ?_ ?_;rotate_left;intro w';go_simp;with_reducible rfl;rotate_left;simp only [nS];rfl
    refine pu 7 (some 19) undef rfl rfl (by kernel_rfl) (fun _ _ _ h=>h) (.inr ⟨by rfl,rfl⟩) ?_ ?_ ?_;rotate_left;simp only [nS];rfl
    refine pu 8 (some 20) undef rfl rfl (by kernel_rfl) (fun _ _ _ h=>h) (.inr ⟨by rfl,rfl⟩) ?_ ?_ ?_;rotate_left;simp only [nS];rfl
    refine pu 9 (some 21) undef rfl rfl (by kernel_rfl) (fun _ _ _ h=>h) (.inr ⟨by rfl,rfl⟩) ?_ ?_ ?_;rotate_left;simp only [nS];rfl
    refine pu 10 (some 22) undef rfl rfl (by kernel_rfl) (fun _ _ _ h=>h) (.inr ⟨by rfl,rfl⟩) ?_ ?_ ?_;rotate_left;simp only [nS];rfl
    refine pu 11 (some 23) undef rfl rfl (by kernel_rfl) (fun _ _ _ h=>h) (.inr ⟨by rfl,rfl⟩) ?_ ?_ ?_;rotate_left;simp only [nS];rfl
    refine pu 12 (some 24) undef rfl rfl (by kernel_rfl) (fun _ _ _ h=>h) (.inr ⟨by rfl,rfl⟩) ?_ ?_ ?_;rotate_left;simp only [nS];rfl
    refine pu 13 (some 25) undef rfl rfl (by kernel_rfl) (fun _ _ _ h=>h) (.inr ⟨by rfl,rfl⟩) ?_ ?_ ?_;rotate_left;simp only [nS];rfl
    refine pu 14 (some 26) undef rfl rfl (by kernel_rfl) (fun _ _ _ h=>h) (.inr ⟨by rfl,rfl⟩) ?_ ?_ ?_;rotate_left;simp only [nS];rfl
    refine pu 15 (some 27) undef rfl rfl (by kernel_rfl) (fun _ _ _ h=>h) (.inr ⟨by rfl,rfl⟩) ?_ ?_ ?_;rotate_left;simp only [nS];rfl
    refine pu 16 (some 28) ?_ rfl rfl (by kernel_rfl) (fun _ _ _ h=>h) (.inl ⟨by rfl,?_⟩) ?_ ?_ ?_;rotate_left;intro w';go_simp;with_reducible rfl;rotate_left;simp only [nS];rfl
    refine pu 17 (some 29) ?_ rfl rfl (by kernel_rfl) (fun _ _ _ h=>h) (.inl ⟨by rfl,?_⟩) ?_ ?_ ?_;rotate_left;intro w';go_simp;with_reducible rfl;rotate_left;simp only [nS];rfl
    refine done_ (by kernel_rfl) ?_
    go_wp2
    go_roundg (l0.length-(0+1))
    case measure=>omega
    case rel=>exact ⟨0+1,by omega,by omega,by first|exact congrArg (Value.int .i64) HSTEP.out|go_num,HN1,Ba⟩
   ·obtain ⟨z,hze⟩ : ∃ z:Int,((i-1:Nat):Int)=z:=⟨_,rfl⟩
    have hw:wrap64 ((i:Int)-1)=z:=by have:=HL.out;unfold wrap64;omega
    have q1:0≤z:=by omega
    have q2:z<(l0.length:Int):=by omega
    obtain ⟨ad2,e2,y0,y1,y2,y3⟩:=at_T45 HR.out z q1 q2
    injection e2 with e2
    subst e2
    have hm:=HMEM.out hz
    rw [hze] at hm
    rw [← hm] at HNX HNO
    have hgt:decide ((0:Int)<(i:Int))=true:=decide_eq_true (by omega)
    have hgt2:(0:Int)<(i:Int):=by omega
    have hgt3:decide (0<i)=true:=decide_eq_true hz
    have hoky:=(HO.out (i-1) (by omega) (by omega)).1
    rw [← hm] at hoky
    generalize rd_T45 l0 z=y at *
    have hpx:=fun V=>fleuronref27_pair.calls x.f0 x.f1 x.f2 x.f3 _ V (pairW_is hok)
    have hpy:=fun V=>fleuronref27_pair.calls y.f0 y.f1 y.f2 y.f3 _ V (pairW_is hoky)
    have HN1:=aK (HNX.out hok)
    have HN2:Aside0 (¬ pairN y<pairN x→r=false):=⟨fun h=>HNO.out (fun hh=>h (hh.2 hz))⟩
    generalize pairN x=px at *
    generalize pairN y=py at *
    have HPX:=aK hpx
    have HPY:=aK hpy
    have P4:=aK ((B1.out.cell (World.block_lt_of_cell? w _ y0)).trans y0)
    have P5:=aK ((B1.out.cell (World.block_lt_of_cell? w _ y1)).trans y1)
    have P6:=aK ((B1.out.cell (World.block_lt_of_cell? w _ y2)).trans y2)
    have P7:=aK ((B1.out.cell (World.block_lt_of_cell? w _ y3)).trans y3)
    have hsplit:(px≤py∧decide (px≤py)=true)∨(¬ px≤py∧decide (px≤py)=false):=by
     by_cases h:px≤py
     ·exact .inl ⟨h,decide_eq_true h⟩
     ·exact .inr ⟨h,decide_eq_false h⟩
    have HZ:=aK hz
    clear hok hoky hpx hpy HNX HNO HMEM hm hze y0 y1 y2 y3 HO hz
    rcases hsplit with ⟨g1,g2⟩|⟨g1,g2⟩
    all_goals
     refine start_ (n:=18) (S:=fun w'=>w'.cell? ⟨b4,0,none⟩=some (.int .i64 x.f0)∧w'.cell? ⟨b4,1,none⟩=some (.int .i64 x.f1)∧w'.cell? ⟨b4,2,none⟩=some (.int .i64 x.f2)∧w'.cell? ⟨b4,3,none⟩=some (.int .i64 x.f3)∧w'.cell? (ad.add (z.toNat*4))=some (.int .i64 y.f0)∧w'.cell? ⟨(ad.add (z.toNat*4)).block,(ad.add (z.toNat*4)).off+1,none⟩=some (.int .i64 y.f1)∧w'.cell? ⟨(ad.add (z.toNat*4)).block,(ad.add (z.toNat*4)).off+2,none⟩=some (.int .i64 y.f2)∧w'.cell? ⟨(ad.add (z.toNat*4)).block,(ad.add (z.toNat*4)).off+3,none⟩=some (.int .i64 y.f3)) (ds:=[]) #[false,false,false,false,false,false,false,false,false,false,false,false,false,false,false,false,false,false] (by kernel_rfl) rfl rfl ⟨P0.out,P1.out,P2.out,P3.out,P4.out,P5.out,P6.out,P7.out⟩ (fun hHeld=>?_)
     refine tk 0 (some 12) ?_ rfl rfl (by kernel_rfl) (fun _ _ _ h=>h) (.inl ⟨by rfl,?_⟩) hHeld ?_ ?_ ?_;rotate_left;rintro w' ⟨s0,s1,s2,s3,s4,s5,s6,s7⟩;go_simp;with_reducible rfl;rotate_left;simp only [nS];rfl
     refine one_ (i:=1) (N:=some 13) #[true,true,false,false,false,false,false,false,false,false,false,false,false,false,false,false,false,false] rfl rfl (by kernel_rfl) (by decide) (fun K hK=>?_)
     refine goes_ Tryz.func56 (by kernel_rfl) rfl #[.agg #[.int .i64 x.f0,.int .i64 x.f1,.int .i64 x.f2,.int .i64 x.f3]] (by rfl) rfl rfl (by simp only [List.map_toArray,List.map_cons,List.map_nil];rfl) ?_
     refine (HR4.out _).mono ?_
     rintro e Wa ⟨rfl,hb⟩
     have Ba:=aK (below_step B1.out hb)
     refine ⟨_,rfl,?_⟩
     refine hK.out _ _ ⟨(hb.cell (World.block_lt_of_cell? _ _ hHeld.1)).trans hHeld.1,(hb.cell (World.block_lt_of_cell? _ _ hHeld.2.1)).trans hHeld.2.1,(hb.cell (World.block_lt_of_cell? _ _ hHeld.2.2.1)).trans hHeld.2.2.1,(hb.cell (World.block_lt_of_cell? _ _ hHeld.2.2.2.1)).trans hHeld.2.2.2.1,(hb.cell (World.block_lt_of_cell? _ _ hHeld.2.2.2.2.1)).trans hHeld.2.2.2.2.1,(hb.cell (World.block_lt_of_cell? _ _ hHeld.2.2.2.2.2.1)).trans hHeld.2.2.2.2.2.1,(hb.cell (World.block_lt_of_cell? _ _ hHeld.2.2.2.2.2.2.1)).trans hHeld.2.2.2.2.2.2.1,(hb.cell (World.block_lt_of_cell? _ _ hHeld.2.2.2.2.2.2.2)).trans hHeld.2.2.2.2.2.2.2⟩ (fun hHeld=>?_)
     clear hK K
     refine norm_ (a':=?_) ?_ ?_;rotate_left;show Act.put _ (some 13) _=_;simp only [nS];rfl
     refine pu 2 (some 14) ?_ rfl rfl (by kernel_rfl) (fun _ _ _ h=>h) (.inl ⟨by rfl,?_⟩) ?_ ?_ ?_;rotate_left;intro w';go_simp;with_reducible rfl;rotate_left;simp only [nS];rfl
     refine pu 3 (some 15) ?_ rfl rfl (by kernel_rfl) (fun _ _ _ h=>h) (.inl ⟨by rfl,?_⟩) ?_ ?_ ?_;rotate_left;intro w';go_simp;with_reducible rfl;rotate_left;simp only [nS];rfl
     refine pu 4 (some 16) ?_ rfl rfl (by kernel_rfl) (fun _ _ _ h=>h) (.inl ⟨by rfl,?_⟩) ?_ ?_ ?_;rotate_left;intro w';go_simp;with_reducible rfl;rotate_left;simp only [nS];rfl
     refine pu 5 (some 17) ?_ rfl rfl (by kernel_rfl) (fun _ _ _ h=>h) (.inl ⟨by rfl,?_⟩) ?_ ?_ ?_;rotate_left;intro w';go_simp;with_reducible rfl;rotate_left;simp only [nS];rfl
     refine pu 6 (some 18) ?_ rfl rfl (by kernel_rfl) (fun _ _ _ h=>h) (.inl ⟨by rfl,?_⟩) ?_ ?_ ?_;rotate_left;intro w';go_simp;with_reducible rfl;rotate_left;simp only [nS];rfl
     refine pu 7 (some 19) ?_ rfl rfl (by kernel_rfl) (fun _ _ _ h=>h) (.inl ⟨by rfl,?_⟩) ?_ ?_ ?_;rotate_left;intro w';go_simp;with_reducible rfl;rotate_left;simp only [nS];rfl
     refine pu 8 (some 20) ?_ rfl rfl (by kernel_rfl) (fun _ _ _ h=>h) (.inl ⟨by rfl,?_⟩) ?_ ?_ ?_;rotate_left;intro w';go_simp;with_reducible rfl;rotate_left;simp only [nS];rfl
     refine pu 9 (some 21) ?_ rfl rfl (by kernel_rfl) (fun _ _ _ h=>h) (.inl ⟨by rfl,?_⟩) ?_ ?_ ?_;rotate_left;intro w';go_simp;with_reducible rfl;rotate_left;simp only [nS];rfl
     refine pu 10 (some 22) ?_ rfl rfl (by kernel_rfl) (fun _ _ _ h=>h) (.inl ⟨by rfl,?_⟩) ?_ ?_ ?_;rotate_left;intro w';go_simp;with_reducible rfl;rotate_left;simp only [nS];rfl
     refine tk 11 (some 23) ?_ rfl rfl (by kernel_rfl) (fun _ _ _ h=>h) (.inl ⟨by rfl,?_⟩) hHeld ?_ ?_ ?_;rotate_left;rintro w' ⟨s0,s1,s2,s3,s4,s5,s6,s7⟩;go_simp;with_reducible rfl;rotate_left;simp only [nS];rfl
     refine tk 13 (some 25) ?_ rfl rfl (by kernel_rfl) (fun _ _ _ h=>h) (.inl ⟨by rfl,?_⟩) hHeld ?_ ?_ ?_;rotate_left;rintro w' ⟨s0,s1,s2,s3,s4,s5,s6,s7⟩;go_simp;with_reducible rfl;rotate_left;simp only [nS];rfl
     refine one_ (i:=12) (N:=some 24) #[true,true,true,true,true,true,true,true,true,true,true,true,true,true,false,false,false,false] rfl rfl (by kernel_rfl) (by decide) (fun K hK=>?_)
     refine goes_ Tryz.func57 (by kernel_rfl) rfl #[.agg #[.int .i64 y.f0,.int .i64 y.f1,.int .i64 y.f2,.int .i64 y.f3]] (by rfl) rfl rfl (by simp only [List.map_toArray,List.map_cons,List.map_nil];rfl) ?_
     refine (HPY.out _).mono ?_
     rintro e Wb ⟨rfl,hb⟩
     have Bb:=aK (below_step Ba.out hb)
     refine ⟨_,rfl,?_⟩
     refine hK.out _ _ ⟨(hb.cell (World.block_lt_of_cell? _ _ hHeld.1)).trans hHeld.1,(hb.cell (World.block_lt_of_cell? _ _ hHeld.2.1)).trans hHeld.2.1,(hb.cell (World.block_lt_of_cell? _ _ hHeld.2.2.1)).trans hHeld.2.2.1,(hb.cell (World.block_lt_of_cell? _ _ hHeld.2.2.2.1)).trans hHeld.2.2.2.1,(hb.cell (World.block_lt_of_cell? _ _ hHeld.2.2.2.2.1)).trans hHeld.2.2.2.2.1,(hb.cell (World.block_lt_of_cell? _ _ hHeld.2.2.2.2.2.1)).trans hHeld.2.2.2.2.2.1,(hb.cell (World.block_lt_of_cell? _ _ hHeld.2.2.2.2.2.2.1)).trans hHeld.2.2.2.2.2.2.1,(hb.cell (World.block_lt_of_cell? _ _ hHeld.2.2.2.2.2.2.2)).trans hHeld.2.2.2.2.2.2.2⟩ (fun hHeld=>?_)
     clear hK K
     refine norm_ (a':=?_) ?_ ?_;rotate_left;show Act.put _ (some 24) _=_;simp only [nS];rfl
     refine one_ (i:=14) (N:=some 26) #[true,true,true,true,true,true,true,true,true,true,true,true,true,true,true,false,false,false] rfl rfl (by kernel_rfl) (by decide) (fun K hK=>?_)
     refine goes_ Tryz.func57 (by kernel_rfl) rfl #[.agg #[.int .i64 x.f0,.int .i64 x.f1,.int .i64 x.f2,.int .i64 x.f3]] (by rfl) rfl rfl (by simp only [List.map_toArray,List.map_cons,List.map_nil];rfl) ?_
     refine (HPX.out _).mono ?_
     rintro e Wc ⟨rfl,hb⟩
     have Bc:=aK (below_step Bb.out hb)
     refine ⟨_,rfl,?_⟩
     refine hK.out _ _ ⟨(hb.cell (World.block_lt_of_cell? _ _ hHeld.1)).trans hHeld.1,(hb.cell (World.block_lt_of_cell? _ _ hHeld.2.1)).trans hHeld.2.1,(hb.cell (World.block_lt_of_cell? _ _ hHeld.2.2.1)).trans hHeld.2.2.1,(hb.cell (World.block_lt_of_cell? _ _ hHeld.2.2.2.1)).trans hHeld.2.2.2.1,(hb.cell (World.block_lt_of_cell? _ _ hHeld.2.2.2.2.1)).trans hHeld.2.2.2.2.1,(hb.cell (World.block_lt_of_cell? _ _ hHeld.2.2.2.2.2.1)).trans hHeld.2.2.2.2.2.1,(hb.cell (World.block_lt_of_cell? _ _ hHeld.2.2.2.2.2.2.1)).trans hHeld.2.2.2.2.2.2.1,(hb.cell (World.block_lt_of_cell? _ _ hHeld.2.2.2.2.2.2.2)).trans hHeld.2.2.2.2.2.2.2⟩ (fun hHeld=>?_)
     clear hK K
     refine norm_ (a':=?_) ?_ ?_;rotate_left;show Act.put _ (some 26) _=_;simp only [nS];rfl
     refine pu 15 (some 27) ?_ rfl rfl (by kernel_rfl) (fun _ _ _ h=>h) (.inl ⟨by rfl,?_⟩) ?_ ?_ ?_;rotate_left;intro w';go_simp;with_reducible rfl;rotate_left;simp only [nS];rfl
     refine pu 16 (some 28) ?_ rfl rfl (by kernel_rfl) (fun _ _ _ h=>h) (.inl ⟨by rfl,?_⟩) ?_ ?_ ?_;rotate_left;intro w';go_simp;with_reducible rfl;rotate_left;simp only [nS];rfl
     refine pu 17 (some 29) ?_ rfl rfl (by kernel_rfl) (fun _ _ _ h=>h) (.inl ⟨by rfl,?_⟩) ?_ ?_ ?_;rotate_left;intro w';go_simp;with_reducible rfl;rotate_left;simp only [nS];rfl
     refine done_ (by kernel_rfl) ?_
    ·have HF:Aside0 (r=false):=⟨HN2.out (fun h=>by omega)⟩
     go_wp2
     go_ret
     exact ⟨by rw [HF.out];rfl,Bc.out⟩
    ·have HN3:=aK (HN1.out (fun _=>by omega))
     go_wp2
     go_roundg (l0.length-(i+1))
     case measure=>omega
     case rel=>exact ⟨i+1,by omega,by omega,by first|exact congrArg (Value.int .i64) HSTEP.out|go_num,HN3,Bc⟩
  ·have hlti : ¬ (i:Int)<(l0.length:Int):=by omega
   obtain rfl:i=l0.length:=by omega
   have HE:Aside0 (r=decide ((l0.length:Int)≤500)):=⟨by rw [← HQ.out,okTo_end HO.out];exact decide_eq_decide.mpr (by omega)⟩
   go_wp2
   go_ret
   exact ⟨by rw [HE.out];rfl,HB.out⟩
end Go.Proofs.YtoemkemmiikhlaaGreat.PF2
