import Derived.Test.YtoemkemmiikhlaaGreatPF4x0
import Derived.Test.YtoemkemmiikhlaaGreatPF4x1
import Derived.Test.YtoemkemmiikhlaaGreatPF4x3
import Derived.Test.YtoemkemmiikhlaaGreatPF4x17
namespace Go.Proofs.YtoemkemmiikhlaaGreat.PF4
open Go.RowKit Go.Proofs.YtoemkemmiikhlaaGreatW.PrintWords Go.Proofs.YtoemkemmiikhlaaGreatW.PrintLast Go.Proofs.YtoemkemmiikhlaaGreatW.PrintMore
attribute [local go_sem] max2_int min2_int max_two min_two max_three min_three max_four min_four
set_option linter.unusedVariables false
set_option linter.unusedSimpArgs false
def okToC (cs:List S50) (i:Nat):Prop:=∀ j (h:j<cs.length),j<i→okC cs[j]=true∧(0<j→cs[j-1].f0<cs[j].f0)
theorem okToC_next {cs:List S50} {i:Nat} (h:okToC cs i) (hi:i<cs.length) (h1:okC cs[i]=true) (h2:0<i→cs[i-1].f0<cs[i].f0):okToC cs (i+1):=fun j hj hji=>by
 rcases Nat.lt_or_ge j i with h3|h3
 ·exact h j hj h3
 ·obtain rfl:j=i:=by omega
  exact ⟨h1,h2⟩
theorem okToC_end {sz:Int} {cs:List S50} {rs:List S45} (h:okToC cs cs.length):validM sz cs rs=(sizeB sz && (decide ((cs.length:Int)≤256) && validR rs)):=by
 have h1:cs.all okC=true:=List.all_eq_true.mpr fun x hx=>by
  obtain ⟨j,hj,rfl⟩:=List.getElem_of_mem hx
  exact (h j hj hj).1
 have h2:chainB lessC cs=true:=(chainB_at lessC cs).mpr fun j hj=>by
  rw [lessC_is]
  exact decide_eq_true ((h (j+1) hj hj).2 (by omega))
 rw [validM,h1,h2,Bool.true_and,Bool.true_and,decide_eq_decide.mpr (show cs.length≤256↔(cs.length:Int)≤256 by omega)]
theorem okToC_not {sz:Int} {cs:List S50} {rs:List S45} {i:Nat} (hi:i<cs.length) (hn : ¬ (okC cs[i]=true∧(0<i→cs[i-1].f0<cs[i].f0))):validM sz cs rs=false:=by
 cases h:validM sz cs rs with
 | false=>rfl
 | true =>
  exfalso
  unfold validM at h
  simp only [Bool.and_eq_true] at h
  refine hn ⟨List.all_eq_true.mp h.2.2.1 _ (List.getElem_mem hi),fun h0=>?_⟩
  obtain ⟨j,rfl⟩ : ∃ m,i=m+1:=⟨i-1,by omega⟩
  have:=(chainB_at lessC cs).mp h.2.2.2.1 j hi
  rw [lessC_is] at this
  exact of_decide_eq_true this
def fleuronref27_Valid.f (k:Nat) (a:Int) (cs:List S50) (rs:List S45):Option Bool:=if cs.length≤1000000∧rs.length≤1000000 then some (validM a cs rs) else none
set_option maxHeartbeats 8000000 in
set_option maxRecDepth 100000 in
theorem fleuronref27_Valid.calls (k : Nat) (a : Int) (A1 : Option Addr) (c1 : Nat) (cs : List S50) (A2 : Option Addr) (c2 : Nat) (rs : List S45) (r : Bool) (w : World) (hr1 : Kd.C k50 w A1 cs.length cs) (hc1 : cs.length ≤ c1) (hr2 : Kd.C k45 w A2 rs.length rs) (hc2 : rs.length ≤ c2) (h : fleuronref27_Valid.f k a cs rs = some r) :
  Calls Tryz.prog 14 #[.agg #[.int .i64 a,.slice A1 cs.length c1,.slice A2 rs.length c2]] w fun e w'=>e = .returned (.bool r)∧Below w.heap.size w w':=by
 have hu:=Tryz.underlying25
 have hu50:=Tryz.underlying50
 obtain ⟨⟨hl,hl2⟩,hq⟩:(cs.length≤1000000∧rs.length≤1000000)∧validM a cs rs=r:=by
  unfold fleuronref27_Valid.f at h
  by_cases h1:cs.length≤1000000∧rs.length≤1000000
  ·rw [if_pos h1] at h;exact ⟨h1,Option.some.inj h⟩
  ·rw [if_neg h1] at h;cases h
 have HL:=aK hl
 have HQ:=aK hq
 have HR:=aK hr1
 have HRU:=aK (fun V (hv:Below w.heap.size w V)=>fleuronref27_Rules.calls 1 A2 c2 rs (validR rs) V (Kd.C_below hr2 hv) hc2 (by unfold fleuronref27_Rules.f;rw [if_pos hl2]))
 obtain ⟨b1,hb1⟩ : ∃ b,b=w.heap.size:=⟨_,rfl⟩
 have HB:=aK (below_alloc (Below.refl w.heap.size w) (.cells #[.int .i64 a,.slice A1 cs.length c1,.slice A2 rs.length c2] 25))
 have hm:=blk_new w (.cells #[.int .i64 a,.slice A1 cs.length c1,.slice A2 rs.length c2] 25)
 rw [← hb1] at hm
 have HM:=aK hm
 have HBE:=aK hb1
 clear h hl hl2 hq hr1 hr2 hc1 hc2 hm hb1
 go_enter Tryz.func14,Tryz.ntmps14
 go_upto_region 1 with (fail)
 rw [← HBE.out]
 generalize w.alloc (.cells #[.int .i64 a,.slice A1 cs.length c1,.slice A2 rs.length c2] 25)=V0 at *
 have p1:=(blk_cell HM.out 1).trans rfl
 go_wp2
 clear p1 HBE
 go_loopg [8] cs.length (fun gg s8 wr=>∃ i:Nat,i≤cs.length∧cs.length-i≤gg∧s8 = .int .i64 i∧Aside0 (okToC cs i)∧Aside0 (Below w.heap.size w wr)∧Aside0 (wr.heap[b1]?=some (.cells #[.int .i64 a,.slice A1 cs.length c1,.slice A2 rs.length c2] 25 (0,0))))
 case atStart=>exact ⟨0,by omega,by omega,rfl,⟨fun j h hj=>absurd hj (by omega)⟩,HB,HM⟩
 case round =>
  clear HB HM
  obtain ⟨i,hi,hg,rfl,HO,HB,HM⟩:=hrel
  by_cases hlt:i<cs.length
  ·have hlti:(i:Int)<(cs.length:Int):=by omega
   have hi0:(0:Int)≤(i:Int):=by omega
   obtain ⟨ad,e1,x0,x1,x2,x3⟩:=at_T50 HR.out (i:Int) (by omega) (by omega)
   simp only [Int.toNat_natCast] at x0 x1 x2 x3
   replace x0:=(HB.out.cell (World.block_lt_of_cell? w _ x0)).trans x0
   replace x1:=(HB.out.cell (World.block_lt_of_cell? w _ x1)).trans x1
   replace x2:=(HB.out.cell (World.block_lt_of_cell? w _ x2)).trans x2
   replace x3:=(HB.out.cell (World.block_lt_of_cell? w _ x3)).trans x3
   have hrd:rd_T50 cs (i:Int)=cs[i]:=by simp [rd_T50,List.getD_eq_getElem?_getD,hlt]
   have HSTEP:=aK (show wrap64 ((i:Int)+1)=((i+1:Nat):Int) by have:=HL.out;unfold wrap64;omega)
   have HNX:=aK (fun h1 h2=>okToC_next HO.out hlt h1 h2)
   have HNO:=aK (fun h=>HQ.out.symm.trans (okToC_not (sz:=a) (rs:=rs) hlt h))
   have HMEM:=aK (fun (h0:0<i)=>(show rd_T50 cs ((i-1:Nat):Int)=cs[i-1] by simp [rd_T50,List.getD_eq_getElem?_getD,show i-1<cs.length by omega]))
   rw [← hrd] at HNX HNO
   generalize rd_T50 cs (i:Int)=x at *
   have HR4:=aK (fun V=>fleuronref27_char.calls x.f0 x.f1 x.f2 x.f3 (okC x) V (charW_is x))
   subst e1
   have B1:=aK (below_drew1 (below_alloc HB.out (.cells #[.int .i64 x.f0,.int .i64 x.f1,.int .i64 x.f2,.int .i64 x.f3] 50)))
   have M1:=aK (blk_drew (blk_alloc HM.out (.cells #[.int .i64 x.f0,.int .i64 x.f1,.int .i64 x.f2,.int .i64 x.f3] 50)))
   have X1:=blk_drew (blk_new wr (.cells #[.int .i64 x.f0,.int .i64 x.f1,.int .i64 x.f2,.int .i64 x.f3] 50))
   have P0:=aK ((blk_cell X1 0).trans rfl)
   have P1:=aK ((blk_cell X1 1).trans rfl)
   have P2:=aK ((blk_cell X1 2).trans rfl)
   have P3:=aK ((blk_cell X1 3).trans rfl)
   have P4:=aK ((blk_cell M1.out 1).trans rfl)
   clear hrd X1 HB HM
   go_upto_region 4 with (fail)
   generalize wr.heap.size=b4 at *
   generalize wr.alloc (.cells #[.int .i64 x.f0,.int .i64 x.f1,.int .i64 x.f2,.int .i64 x.f3] 50)=V4 at *
   clear x0 x1 x2 x3
   cases hok:okC x with
   | false =>
    have HF:Aside0 (r=false):=⟨HNO.out (fun h=>by rw [hok] at h;cases h.1)⟩
    rw [hok] at HR4
    clear hok HNX HNO HMEM
    refine start_ (n:=19) (S:=fun w'=>w'.cell? ⟨b4,0,none⟩=some (.int .i64 x.f0)∧w'.cell? ⟨b4,1,none⟩=some (.int .i64 x.f1)∧w'.cell? ⟨b4,2,none⟩=some (.int .i64 x.f2)∧w'.cell? ⟨b4,3,none⟩=some (.int .i64 x.f3)∧w'.cell? ⟨b1,1,none⟩=some (.slice (some ad) cs.length c1)) (ds:=[]) #[false,false,false,false,false,false,false,false,false,false,false,false,false,false,false,false,false,false,false] (by kernel_rfl) rfl rfl ⟨P0.out,P1.out,P2.out,P3.out,P4.out⟩ (fun hHeld=>?_)
    refine tk 0 (some 13) ?_ rfl rfl (by kernel_rfl) (fun _ _ _ h=>h) (.inl ⟨by rfl,?_⟩) hHeld ?_ ?_ ?_;rotate_left;rintro w' ⟨s0,s1,s2,s3,s4⟩;go_simp;with_reducible rfl;rotate_left;simp only [nS];rfl
    refine one_ (i:=1) (N:=some 14) #[true,true,false,false,false,false,false,false,false,false,false,false,false,false,false,false,false,false,false] rfl rfl (by kernel_rfl) (by decide) (fun K hK=>?_)
    refine goes_ Tryz.func38 (by kernel_rfl) rfl #[.agg #[.int .i64 x.f0,.int .i64 x.f1,.int .i64 x.f2,.int .i64 x.f3]] (by rfl) rfl rfl (by simp only [List.map_toArray,List.map_cons,List.map_nil];rfl) ?_
    refine (HR4.out _).mono ?_
    rintro e Wa ⟨rfl,hb⟩
    have Ba:=aK (below_step B1.out hb)
    have Ma:=aK (blk_below M1.out hb)
    refine ⟨_,rfl,?_⟩
    refine hK.out _ _ ⟨(hb.cell (World.block_lt_of_cell? _ _ hHeld.1)).trans hHeld.1,(hb.cell (World.block_lt_of_cell? _ _ hHeld.2.1)).trans hHeld.2.1,(hb.cell (World.block_lt_of_cell? _ _ hHeld.2.2.1)).trans hHeld.2.2.1,(hb.cell (World.block_lt_of_cell? _ _ hHeld.2.2.2.1)).trans hHeld.2.2.2.1,(hb.cell (World.block_lt_of_cell? _ _ hHeld.2.2.2.2)).trans hHeld.2.2.2.2⟩ (fun hHeld=>?_)
    clear hK K
    refine norm_ (a':=?_) ?_ ?_;rotate_left;show Act.put _ (some 14) _=_;simp only [nS];rfl
    refine pu 2 (some 15) ?_ rfl rfl (by kernel_rfl) (fun _ _ _ h=>h) (.inl ⟨by rfl,?_⟩) ?_ ?_ ?_;rotate_left;intro w';go_simp;with_reducible rfl;rotate_left;simp only [nS];rfl
    refine pu 3 (some 16) ?_ rfl rfl (by kernel_rfl) (fun _ _ _ h=>h) (.inl ⟨by rfl,?_⟩) ?_ ?_ ?_;rotate_left;intro w';go_simp;with_reducible rfl;rotate_left;simp only [nS];rfl
    refine pu 4 (some 17) undef rfl rfl (by kernel_rfl) (fun _ _ _ h=>h) (.inr ⟨by rfl,rfl⟩) ?_ ?_ ?_;rotate_left;simp only [nS];rfl
    refine pu 5 (some 18) undef rfl rfl (by kernel_rfl) (fun _ _ _ h=>h) (.inr ⟨by rfl,rfl⟩) ?_ ?_ ?_;rotate_left;simp only [nS];rfl
    refine pu 6 (some 19) undef rfl rfl (by kernel_rfl) (fun _ _ _ h=>h) (.inr ⟨by rfl,rfl⟩) ?_ ?_ ?_;rotate_left;simp only [nS];rfl
    refine pu 7 (some 20) undef rfl rfl (by kernel_rfl) (fun _ _ _ h=>h) (.inr ⟨by rfl,rfl⟩) ?_ ?_ ?_;rotate_left;simp only [nS];rfl
    refine pu 8 (some 21) undef rfl rfl (by kernel_rfl) (fun _ _ _ h=>h) (.inr ⟨by rfl,rfl⟩) ?_ ?_ ?_;rotate_left;simp only [nS];rfl
    refine pu 9 (some 22) undef rfl rfl (by kernel_rfl) (fun _ _ _ h=>h) (.inr ⟨by rfl,rfl⟩) ?_ ?_ ?_;rotate_left;simp only [nS];rfl
    refine pu 10 (some 23) undef rfl rfl (by kernel_rfl) (fun _ _ _ h=>h) (.inr ⟨by rfl,rfl⟩) ?_ ?_ ?_;rotate_left;simp only [nS];rfl
    refine pu 11 (some 24) undef rfl rfl (by kernel_rfl) (fun _ _ _ h=>h) (.inr ⟨by rfl,rfl⟩) ?_ ?_ ?_;rotate_left;simp only [nS];rfl
    refine pu 12 (some 25) undef rfl rfl (by kernel_rfl) (fun _ _ _ h=>h) (.inr ⟨by rfl,rfl⟩) ?_ ?_ ?_;rotate_left;simp only [nS];rfl
    refine pu 13 (some 26) undef rfl rfl (by kernel_rfl) (fun _ _ _ h=>h) (.inr ⟨by rfl,rfl⟩) ?_ ?_ ?_;rotate_left;simp only [nS];rfl
    refine pu 14 (some 27) undef rfl rfl (by kernel_rfl) (fun _ _ _ h=>h) (.inr ⟨by rfl,rfl⟩) ?_ ?_ ?_;rotate_left;simp only [nS];rfl
    refine pu 15 (some 28) undef rfl rfl (by kernel_rfl) (fun _ _ _ h=>h) (.inr ⟨by rfl,rfl⟩) ?_ ?_ ?_;rotate_left;simp only [nS];rfl
    refine pu 16 (some 29) undef rfl rfl (by kernel_rfl) (fun _ _ _ h=>h) (.inr ⟨by rfl,rfl⟩) ?_ ?_ ?_;rotate_left;simp only [nS];rfl
    refine pu 17 (some 30) undef rfl rfl (by kernel_rfl) (fun _ _ _ h=>h) (.inr ⟨by rfl,rfl⟩) ?_ ?_ ?_;rotate_left;simp only [nS];rfl
    refine pu 18 (some 31) ?_ rfl rfl (by kernel_rfl) (fun _ _ _ h=>h) (.inl ⟨by rfl,?_⟩) ?_ ?_ ?_;rotate_left;intro w';go_simp;with_reducible rfl;rotate_left;simp only [nS];rfl
    refine done_ (by kernel_rfl) ?_
    go_wp2
    go_ret
    exact ⟨by rw [HF.out];rfl,Ba.out⟩
   | true =>
   rw [hok] at HR4
   rcases Nat.eq_zero_or_pos i with hz|hz
   ·subst hz
    have HN1:=aK (HNX.out hok (fun h=>absurd h (by omega)))
    have hgt:decide ((0:Int)<((0:Nat):Int))=false:=rfl
    have hgt2 : ¬ (0:Int)<((0:Nat):Int):=by omega
    clear hok HNX HNO HMEM
    refine start_ (n:=19) (S:=fun w'=>w'.cell? ⟨b4,0,none⟩=some (.int .i64 x.f0)∧w'.cell? ⟨b4,1,none⟩=some (.int .i64 x.f1)∧w'.cell? ⟨b4,2,none⟩=some (.int .i64 x.f2)∧w'.cell? ⟨b4,3,none⟩=some (.int .i64 x.f3)∧w'.cell? ⟨b1,1,none⟩=some (.slice (some ad) cs.length c1)) (ds:=[]) #[false,false,false,false,false,false,false,false,false,false,false,false,false,false,false,false,false,false,false] (by kernel_rfl) rfl rfl ⟨P0.out,P1.out,P2.out,P3.out,P4.out⟩ (fun hHeld=>?_)
    refine tk 0 (some 13) ?_ rfl rfl (by kernel_rfl) (fun _ _ _ h=>h) (.inl ⟨by rfl,?_⟩) hHeld ?_ ?_ ?_;rotate_left;rintro w' ⟨s0,s1,s2,s3,s4⟩;go_simp;with_reducible rfl;rotate_left;simp only [nS];rfl
    refine one_ (i:=1) (N:=some 14) #[true,true,false,false,false,false,false,false,false,false,false,false,false,false,false,false,false,false,false] rfl rfl (by kernel_rfl) (by decide) (fun K hK=>?_)
    refine goes_ Tryz.func38 (by kernel_rfl) rfl #[.agg #[.int .i64 x.f0,.int .i64 x.f1,.int .i64 x.f2,.int .i64 x.f3]] (by rfl) rfl rfl (by simp only [List.map_toArray,List.map_cons,List.map_nil];rfl) ?_
    refine (HR4.out _).mono ?_
    rintro e Wa ⟨rfl,hb⟩
    have Ba:=aK (below_step B1.out hb)
    have Ma:=aK (blk_below M1.out hb)
    refine ⟨_,rfl,?_⟩
    refine hK.out _ _ ⟨(hb.cell (World.block_lt_of_cell? _ _ hHeld.1)).trans hHeld.1,(hb.cell (World.block_lt_of_cell? _ _ hHeld.2.1)).trans hHeld.2.1,(hb.cell (World.block_lt_of_cell? _ _ hHeld.2.2.1)).trans hHeld.2.2.1,(hb.cell (World.block_lt_of_cell? _ _ hHeld.2.2.2.1)).trans hHeld.2.2.2.1,(hb.cell (World.block_lt_of_cell? _ _ hHeld.2.2.2.2)).trans hHeld.2.2.2.2⟩ (fun hHeld=>?_)
    clear hK K
    refine norm_ (a':=?_) ?_ ?_;rotate_left;show Act.put _ (some 14) _=_;simp only [nS];rfl
    refine pu 2 (some 15) ?_ rfl rfl (by kernel_rfl) (fun _ _ _ h=>h) (.inl ⟨by rfl,?_⟩) ?_ ?_ ?_;rotate_left;intro w';go_simp;with_reducible rfl;rotate_left;simp only [nS];rfl
    refine pu 3 (some 16) ?_ rfl rfl (by kernel_rfl) (fun _ _ _ h=>h) (.inl ⟨by rfl,?_⟩) ?_ ?_ ?_;rotate_left;intro w';go_simp;with_reducible rfl;rotate_left;simp only [nS];rfl
    refine pu 4 (some 17) ?_ rfl rfl (by kernel_rfl) (fun _ _ _ h=>h) (.inl ⟨by rfl,?_⟩) ?_ ?_ ?_;rotate_left;intro w';go_simp;with_reducible rfl;rotate_left;simp only [nS];rfl
    refine pu 5 (some 18) ?_ rfl rfl (by kernel_rfl) (fun _ _ _ h=>h) (.inl ⟨by rfl,?_⟩) ?_ ?_ ?_;rotate_left;intro w';go_simp;with_reducible rfl;rotate_left;simp only [nS];rfl
    refine pu 6 (some 19) ?_ rfl rfl (by kernel_rfl) (fun _ _ _ h=>h) (.inl ⟨by rfl,?_⟩) ?_ ?_ ?_;rotate_left;intro w';go_simp;with_reducible rfl;rotate_left;simp only [nS];rfl
    refine pu 7 (some 20) undef rfl rfl (by kernel_rfl) (fun _ _ _ h=>h) (.inr ⟨by rfl,rfl⟩) ?_ ?_ ?_;rotate_left;simp only [nS];rfl
    refine pu 8 (some 21) undef rfl rfl (by kernel_rfl) (fun _ _ _ h=>h) (.inr ⟨by rfl,rfl⟩) ?_ ?_ ?_;rotate_left;simp only [nS];rfl
    refine pu 9 (some 22) undef rfl rfl (by kernel_rfl) (fun _ _ _ h=>h) (.inr ⟨by rfl,rfl⟩) ?_ ?_ ?_;rotate_left;simp only [nS];rfl
    refine pu 10 (some 23) undef rfl rfl (by kernel_rfl) (fun _ _ _ h=>h) (.inr ⟨by rfl,rfl⟩) ?_ ?_ ?_;rotate_left;simp only [nS];rfl
    refine pu 11 (some 24) undef rfl rfl (by kernel_rfl) (fun _ _ _ h=>h) (.inr ⟨by rfl,rfl⟩) ?_ ?_ ?_;rotate_left;simp only [nS];rfl
    refine pu 12 (some 25) undef rfl rfl (by kernel_rfl) (fun _ _ _ h=>h) (.inr ⟨by rfl,rfl⟩) ?_ ?_ ?_;rotate_left;simp only [nS];rfl
    refine pu 13 (some 26) undef rfl rfl (by kernel_rfl) (fun _ _ _ h=>h) (.inr ⟨by rfl,rfl⟩) ?_ ?_ ?_;rotate_left;simp only [nS];rfl
    refine pu 14 (some 27) undef rfl rfl (by kernel_rfl) (fun _ _ _ h=>h) (.inr ⟨by rfl,rfl⟩) ?_ ?_ ?_;rotate_left;simp only [nS];rfl
    refine pu 15 (some 28) undef rfl rfl (by kernel_rfl) (fun _ _ _ h=>h) (.inr ⟨by rfl,rfl⟩) ?_ ?_ ?_;rotate_left;simp only [nS];rfl
    refine pu 16 (some 29) undef rfl rfl (by kernel_rfl) (fun _ _ _ h=>h) (.inr ⟨by rfl,rfl⟩) ?_ ?_ ?_;rotate_left;simp only [nS];rfl
    refine pu 17 (some 30) ?_ rfl rfl (by kernel_rfl) (fun _ _ _ h=>h) (.inl ⟨by rfl,?_⟩) ?_ ?_ ?_;rotate_left;intro w';go_simp;with_reducible rfl;rotate_left;simp only [nS];rfl
    refine pu 18 (some 31) ?_ rfl rfl (by kernel_rfl) (fun _ _ _ h=>h) (.inl ⟨by rfl,?_⟩) ?_ ?_ ?_;rotate_left;intro w';go_simp;with_reducible rfl;rotate_left;simp only [nS];rfl
    refine done_ (by kernel_rfl) ?_
    go_wp2
    go_roundg (cs.length-(0+1))
    case measure=>omega
    case rel=>exact ⟨0+1,by omega,by omega,by first|exact congrArg (Value.int .i64) HSTEP.out|go_num,HN1,Ba,Ma⟩
   ·obtain ⟨z,hze⟩ : ∃ z:Int,((i-1:Nat):Int)=z:=⟨_,rfl⟩
    have hw:wrap64 ((i:Int)-1)=z:=by have:=HL.out;unfold wrap64;omega
    have q1:0≤z:=by omega
    have q2:z<(cs.length:Int):=by omega
    obtain ⟨ad2,e2,y0,-⟩:=at_T50 HR.out z q1 q2
    injection e2 with e2
    subst e2
    have hm:=HMEM.out hz
    rw [hze] at hm
    rw [← hm] at HNX HNO
    have hgt:decide ((0:Int)<(i:Int))=true:=decide_eq_true (by omega)
    have hgt2:(0:Int)<(i:Int):=by omega
    have hgt3:decide (0<i)=true:=decide_eq_true hz
    generalize rd_T50 cs z=y at *
    have HN1:=aK (HNX.out hok)
    have HN2:Aside0 (¬ y.f0<x.f0→r=false):=⟨fun h=>HNO.out (fun hh=>h (hh.2 hz))⟩
    have P5:=aK ((B1.out.cell (World.block_lt_of_cell? w _ y0)).trans y0)
    have hsplit:(x.f0≤y.f0∧decide (x.f0≤y.f0)=true)∨(¬ x.f0≤y.f0∧decide (x.f0≤y.f0)=false):=by
     by_cases h:x.f0≤y.f0
     ·exact .inl ⟨h,decide_eq_true h⟩
     ·exact .inr ⟨h,decide_eq_false h⟩
    clear hok HNX HNO HMEM hm hze y0 HO hz
    rcases hsplit with ⟨g1,g2⟩|⟨g1,g2⟩
    all_goals
     refine start_ (n:=19) (S:=fun w'=>w'.cell? ⟨b4,0,none⟩=some (.int .i64 x.f0)∧w'.cell? ⟨b4,1,none⟩=some (.int .i64 x.f1)∧w'.cell? ⟨b4,2,none⟩=some (.int .i64 x.f2)∧w'.cell? ⟨b4,3,none⟩=some (.int .i64 x.f3)∧w'.cell? ⟨b1,1,none⟩=some (.slice (some ad) cs.length c1)∧w'.cell? (ad.add (z.toNat*4))=some (.int .i64 y.f0)) (ds:=[]) #[false,false,false,false,false,false,false,false,false,false,false,false,false,false,false,false,false,false,false] (by kernel_rfl) rfl rfl ⟨P0.out,P1.out,P2.out,P3.out,P4.out,P5.out⟩ (fun hHeld=>?_)
     refine tk 0 (some 13) ?_ rfl rfl (by kernel_rfl) (fun _ _ _ h=>h) (.inl ⟨by rfl,?_⟩) hHeld ?_ ?_ ?_;rotate_left;rintro w' ⟨s0,s1,s2,s3,s4,s5⟩;go_simp;with_reducible rfl;rotate_left;simp only [nS];rfl
     refine one_ (i:=1) (N:=some 14) #[true,true,false,false,false,false,false,false,false,false,false,false,false,false,false,false,false,false,false] rfl rfl (by kernel_rfl) (by decide) (fun K hK=>?_)
     refine goes_ Tryz.func38 (by kernel_rfl) rfl #[.agg #[.int .i64 x.f0,.int .i64 x.f1,.int .i64 x.f2,.int .i64 x.f3]] (by rfl) rfl rfl (by simp only [List.map_toArray,List.map_cons,List.map_nil];rfl) ?_
     refine (HR4.out _).mono ?_
     rintro e Wa ⟨rfl,hb⟩
     have Ba:=aK (below_step B1.out hb)
     have Ma:=aK (blk_below M1.out hb)
     refine ⟨_,rfl,?_⟩
     refine hK.out _ _ ⟨(hb.cell (World.block_lt_of_cell? _ _ hHeld.1)).trans hHeld.1,(hb.cell (World.block_lt_of_cell? _ _ hHeld.2.1)).trans hHeld.2.1,(hb.cell (World.block_lt_of_cell? _ _ hHeld.2.2.1)).trans hHeld.2.2.1,(hb.cell (World.block_lt_of_cell? _ _ hHeld.2.2.2.1)).trans hHeld.2.2.2.1,(hb.cell (World.block_lt_of_cell? _ _ hHeld.2.2.2.2.1)).trans hHeld.2.2.2.2.1,(hb.cell (World.block_lt_of_cell? _ _ hHeld.2.2.2.2.2)).trans hHeld.2.2.2.2.2⟩ (fun hHeld=>?_)
     clear hK K
     refine norm_ (a':=?_) ?_ ?_;rotate_left;show Act.put _ (some 14) _=_;simp only [nS];rfl
     refine pu 2 (some 15) ?_ rfl rfl (by kernel_rfl) (fun _ _ _ h=>h) (.inl ⟨by rfl,?_⟩) ?_ ?_ ?_;rotate_left;intro w';go_simp;with_reducible rfl;rotate_left;simp only [nS];rfl
     refine pu 3 (some 16) ?_ rfl rfl (by kernel_rfl) (fun _ _ _ h=>h) (.inl ⟨by rfl,?_⟩) ?_ ?_ ?_;rotate_left;intro w';go_simp;with_reducible rfl;rotate_left;simp only [nS];rfl
     refine pu 4 (some 17) ?_ rfl rfl (by kernel_rfl) (fun _ _ _ h=>h) (.inl ⟨by rfl,?_⟩) ?_ ?_ ?_;rotate_left;intro w';go_simp;with_reducible rfl;rotate_left;simp only [nS];rfl
     refine pu 5 (some 18) ?_ rfl rfl (by kernel_rfl) (fun _ _ _ h=>h) (.inl ⟨by rfl,?_⟩) ?_ ?_ ?_;rotate_left;intro w';go_simp;with_reducible rfl;rotate_left;simp only [nS];rfl
     refine pu 6 (some 19) ?_ rfl rfl (by kernel_rfl) (fun _ _ _ h=>h) (.inl ⟨by rfl,?_⟩) ?_ ?_ ?_;rotate_left;intro w';go_simp;with_reducible rfl;rotate_left;simp only [nS];rfl
     refine pu 7 (some 20) ?_ rfl rfl (by kernel_rfl) (fun _ _ _ h=>h) (.inl ⟨by rfl,?_⟩) ?_ ?_ ?_;rotate_left;intro w';go_simp;with_reducible rfl;rotate_left;simp only [nS];rfl
     refine pu 9 (some 22) ?_ rfl rfl (by kernel_rfl) (fun _ _ _ h=>h) (.inl ⟨by rfl,?_⟩) ?_ ?_ ?_;rotate_left;intro w';go_simp;with_reducible rfl;rotate_left;simp only [nS];rfl
     refine pu 10 (some 23) ?_ rfl rfl (by kernel_rfl) (fun _ _ _ h=>h) (.inl ⟨by rfl,?_⟩) ?_ ?_ ?_;rotate_left;intro w';go_simp;with_reducible rfl;rotate_left;simp only [nS];rfl
     refine pu 14 (some 27) ?_ rfl rfl (by kernel_rfl) (fun _ _ _ h=>h) (.inl ⟨by rfl,?_⟩) ?_ ?_ ?_;rotate_left;intro w';go_simp;with_reducible rfl;rotate_left;simp only [nS];rfl
     refine tk 8 (some 21) ?_ rfl rfl (by kernel_rfl) (fun _ _ _ h=>h) (.inl ⟨by rfl,?_⟩) hHeld ?_ ?_ ?_;rotate_left;rintro w' ⟨s0,s1,s2,s3,s4,s5⟩;go_simp;with_reducible rfl;rotate_left;simp only [nS];rfl
     refine pu 11 (some 24) ?_ rfl rfl (by kernel_rfl) (fun _ _ _ h=>h) (.inl ⟨by rfl,?_⟩) ?_ ?_ ?_;rotate_left;intro w';go_simp;with_reducible rfl;rotate_left;simp only [nS];rfl
     refine pu 12 (some 25) ?_ rfl rfl (by kernel_rfl) (fun _ _ _ h=>h) (.inl ⟨by rfl,?_⟩) ?_ ?_ ?_;rotate_left;intro w';go_simp;with_reducible rfl;rotate_left;simp only [nS];rfl
     refine tk 13 (some 26) ?_ rfl rfl (by kernel_rfl) (fun _ _ _ h=>h) (.inl ⟨by rfl,?_⟩) hHeld ?_ ?_ ?_;rotate_left;rintro w' ⟨s0,s1,s2,s3,s4,s5⟩;go_simp;with_reducible rfl;rotate_left;simp only [nS];rfl
     refine tk 15 (some 28) ?_ rfl rfl (by kernel_rfl) (fun _ _ _ h=>h) (.inl ⟨by rfl,?_⟩) hHeld ?_ ?_ ?_;rotate_left;rintro w' ⟨s0,s1,s2,s3,s4,s5⟩;go_simp;with_reducible rfl;rotate_left;simp only [nS];rfl
     refine pu 16 (some 29) ?_ rfl rfl (by kernel_rfl) (fun _ _ _ h=>h) (.inl ⟨by rfl,?_⟩) ?_ ?_ ?_;rotate_left;intro w';go_simp;with_reducible rfl;rotate_left;simp only [nS];rfl
     refine pu 17 (some 30) ?_ rfl rfl (by kernel_rfl) (fun _ _ _ h=>h) (.inl ⟨by rfl,?_⟩) ?_ ?_ ?_;rotate_left;intro w';go_simp;with_reducible rfl;rotate_left;simp only [nS];rfl
     refine pu 18 (some 31) ?_ rfl rfl (by kernel_rfl) (fun _ _ _ h=>h) (.inl ⟨by rfl,?_⟩) ?_ ?_ ?_;rotate_left;intro w';go_simp;with_reducible rfl;rotate_left;simp only [nS];rfl
     refine done_ (by kernel_rfl) ?_
    ·have HF:Aside0 (r=false):=⟨HN2.out (fun h=>by omega)⟩
     go_wp2
     go_ret
     exact ⟨by rw [HF.out];rfl,Ba.out⟩
    ·have HN3:=aK (HN1.out (fun _=>by omega))
     go_wp2
     go_roundg (cs.length-(i+1))
     case measure=>omega
     case rel=>exact ⟨i+1,by omega,by omega,by first|exact congrArg (Value.int .i64) HSTEP.out|go_num,HN3,Ba,Ma⟩
  ·have hlti : ¬ (i:Int)<(cs.length:Int):=by omega
   obtain rfl:i=cs.length:=by omega
   have HE:Aside0 (r=(sizeB a && (decide ((cs.length:Int)≤256) && validR rs))):=⟨by rw [← HQ.out,okToC_end HO.out]⟩
   have HS:=aK (fun V=>fleuronref27_Size.calls a (sizeB a) V (sizeW_is a))
   have m0:=(blk_cell HM.out 0).trans rfl
   clear HO HQ
   go_wp2_with fail
   refine (HS.out _).mono ?_
   rintro e W5 ⟨rfl,⟨n5,rfl⟩⟩
   have B5:=aK (pw_below_drewN HB.out n5)
   have M5:=aK (blk_drewN HM.out n5)
   clear HS HB HM m0
   generalize wr.drewN n5=W5 at *
   have m1:=(blk_cell M5.out 1).trans rfl
   have m2:=(blk_cell M5.out 2).trans rfl
   cases hs:sizeB a with
   | false =>
    rw [hs] at HE
    clear hs
    go_wp2
    go_ret
    exact ⟨by rw [HE.out];rfl,B5.out⟩
   | true =>
    rw [hs] at HE
    clear hs
    by_cases h5:(cs.length:Int)≤256
    ·have h5b:decide ((cs.length:Int)≤256)=true:=decide_eq_true h5
     have h5c:decide (cs.length≤256)=true:=decide_eq_true (by omega)
     rw [h5b] at HE
     go_wp2_with fail
     refine (HRU.out _ B5.out).mono ?_
     rintro e W6 ⟨rfl,hb⟩
     have HB:=aK (below_step B5.out hb)
     clear hb
     go_wp2
     go_ret
     exact ⟨by rw [HE.out];rfl,HB.out⟩
    ·have h5b:decide ((cs.length:Int)≤256)=false:=decide_eq_false h5
     have h5c:decide (cs.length≤256)=false:=decide_eq_false (by omega)
     rw [h5b] at HE
     go_wp2
     go_ret
     exact ⟨by rw [HE.out];rfl,B5.out⟩
end Go.Proofs.YtoemkemmiikhlaaGreat.PF4
