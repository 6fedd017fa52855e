import Derived.Test.YtoemkemmiikhlaaGreatPF4x0
import Derived.Test.YtoemkemmiikhlaaGreatPF4x1
import Derived.Test.YtoemkemmiikhlaaGreatPF4x2
import Derived.Test.YtoemkemmiikhlaaGreatPF4x7
set_option maxRecDepth 100000
namespace Go.Proofs.YtoemkemmiikhlaaGreat.PF4
open Go.RowKit Go.Proofs.YtoemkemmiikhlaaGreatW.PrintWords Go.Proofs.YtoemkemmiikhlaaGreatW.PrintLast Go.Proofs.YtoemkemmiikhlaaGreatW.PrintMore
attribute [local go_sem] max2_int min2_int max_two min_two max_three min_three max_four min_four
set_option linter.unusedVariables false
set_option linter.unusedSimpArgs false
theorem eqSC (d:Nat) (w:World) (x0 y0 x1 y1 x2 y2 x3 y3:Int):(Op.equalIn (d+2) 50 (.agg #[.int .i64 x0,.int .i64 x1,.int .i64 x2,.int .i64 x3]) (.agg #[.int .i64 y0,.int .i64 y1,.int .i64 y2,.int .i64 y3])).run Tryz.prog w = .ok (x0 == y0 && (x1 == y1 && (x2 == y2 && (x3 == y3)))) w:=by
 refine eqA_of Tryz.underlying50 (by kernel_rfl) ?_
 refine eqf_cons (by rfl) (by go_simp;rfl) (by go_simp;rfl) (by go_simp) ?_
 refine eqf_cons (by rfl) (by go_simp;rfl) (by go_simp;rfl) (by go_simp) ?_
 refine eqf_cons (by rfl) (by go_simp;rfl) (by go_simp;rfl) (by go_simp) ?_
 exact eqf_last (by rfl) (by go_simp;rfl) (by go_simp;rfl) (by go_simp)
theorem eqSR (d:Nat) (w:World) (x0 y0 x1 y1 x2 y2 x3 y3:Int):(Op.equalIn (d+2) 45 (.agg #[.int .i64 x0,.int .i64 x1,.int .i64 x2,.int .i64 x3]) (.agg #[.int .i64 y0,.int .i64 y1,.int .i64 y2,.int .i64 y3])).run Tryz.prog w = .ok (x0 == y0 && (x1 == y1 && (x2 == y2 && (x3 == y3)))) w:=by
 refine eqA_of Tryz.underlying45 (by kernel_rfl) ?_
 refine eqf_cons (by rfl) (by go_simp;rfl) (by go_simp;rfl) (by go_simp) ?_
 refine eqf_cons (by rfl) (by go_simp;rfl) (by go_simp;rfl) (by go_simp) ?_
 refine eqf_cons (by rfl) (by go_simp;rfl) (by go_simp;rfl) (by go_simp) ?_
 exact eqf_last (by rfl) (by go_simp;rfl) (by go_simp;rfl) (by go_simp)
attribute [local go_sem high] eqSC eqSR
def cellsC (x:S50):List Int:=[x.f0,x.f1,x.f2,x.f3]
def cellsR (x:S45):List Int:=[x.f0,x.f1,x.f2,x.f3]
def fleuronref27_Same.f (k:Nat) (a:Int) (cs:List S50) (rs:List S45) (a2:Int) (cs2:List S50) (rs2:List S45):Option Bool:=if (a=a2∧cs.map cellsC=cs2.map cellsC∧rs.map cellsR=rs2.map cellsR)∧cs.length≤1000000∧rs.length≤1000000 then some true else none
structure SmI (w W:World) (b2 b3:Nat) (v1 v2:Array Value):Prop where
 m1:W.heap[b2]?=some (.cells v1 25 (0,0))
 m2:W.heap[b3]?=some (.cells v2 25 (0,0))
 below:Below w.heap.size w W
set_option maxHeartbeats 8000000 in
theorem fleuronref27_Same.calls (k : Nat) (a : Int) (A1 : Option Addr) (c1 : Nat) (cs : List S50) (A2 : Option Addr) (c2 : Nat) (rs : List S45) (a2 : Int) (A3 : Option Addr) (c3 : Nat) (cs2 : List S50) (A4 : Option Addr) (c4 : Nat) (rs2 : List S45) (r : Bool) (w : World) (hr1 : Kd.C k50 w A1 cs.length cs) (hc1 : cs.length ≤ c1) (hr2 : Kd.C k45 w A2 rs.length rs) (hc2 : rs.length ≤ c2) (hr3 : Kd.C k50 w A3 cs2.length cs2) (hc3 : cs2.length ≤ c3) (hr4 : Kd.C k45 w A4 rs2.length rs2) (hc4 : rs2.length ≤ c4) (h : fleuronref27_Same.f k a cs rs a2 cs2 rs2 = some r) :
  Calls Tryz.prog 17 #[.agg #[.int .i64 a,.slice A1 cs.length c1,.slice A2 rs.length c2],.agg #[.int .i64 a2,.slice A3 cs2.length c3,.slice A4 rs2.length c4]] w fun e w'=>e = .returned (.bool r)∧Below w.heap.size w w':=by
 have hu:=Tryz.underlying25
 have hu50:=Tryz.underlying50
 have hu45:=Tryz.underlying45
 obtain ⟨⟨⟨rfl,rfl,rfl⟩,hl,hl2⟩,rfl⟩:((a=a2∧cs=cs2∧rs=rs2)∧cs.length≤1000000∧rs.length≤1000000)∧true=r:=by
  unfold fleuronref27_Same.f at h
  by_cases h1:(a=a2∧cs.map cellsC=cs2.map cellsC∧rs.map cellsR=rs2.map cellsR)∧cs.length≤1000000∧rs.length≤1000000
  ·rw [if_pos h1] at h
   exact ⟨⟨⟨h1.1.1,(List.map_inj_right (fun x y e=>by cases x;cases y;simpa [cellsC] using e)).mp h1.1.2.1,(List.map_inj_right (fun x y e=>by cases x;cases y;simpa [cellsR] using e)).mp h1.1.2.2⟩,h1.2⟩,Option.some.inj h⟩
  ·rw [if_neg h1] at h;cases h
 have HL:=aK hl
 have HL2:=aK hl2
 have HR1:=aK hr1
 have HR2:=aK hr2
 have HR3:=aK hr3
 have HR4:=aK hr4
 obtain ⟨b2,hb2⟩ : ∃ b,b=w.heap.size:=⟨_,rfl⟩
 obtain ⟨b3,hb3⟩ : ∃ b,b=w.heap.size+1:=⟨_,rfl⟩
 have I0:Aside0 (SmI w ((w.alloc (.cells #[.int .i64 a,.slice A1 cs.length c1,.slice A2 rs.length c2] 25)).alloc (.cells #[.int .i64 a,.slice A3 cs.length c3,.slice A4 rs.length c4] 25)) b2 b3 #[.int .i64 a,.slice A1 cs.length c1,.slice A2 rs.length c2] #[.int .i64 a,.slice A3 cs.length c3,.slice A4 rs.length c4]):=⟨by
  have h1:=blk_new (w.alloc (.cells #[.int .i64 a,.slice A1 cs.length c1,.slice A2 rs.length c2] 25)) (.cells #[.int .i64 a,.slice A3 cs.length c3,.slice A4 rs.length c4] 25)
  simp only [World.size_alloc] at h1
  rw [← hb3] at h1
  exact ⟨by rw [hb2];exact blk_alloc (blk_new w _) _,h1,below_alloc (below_alloc (Below.refl _ _) _) _⟩⟩
 have HBE:=aK (And.intro hb2 hb3)
 clear h hl hl2 hr1 hr2 hr3 hr4 hc1 hc2 hc3 hc4 hb2 hb3
 go_enter Tryz.func17,Tryz.ntmps17
 go_upto_region 1 with (fail)
 rw [← HBE.out.2,← HBE.out.1]
 generalize (w.alloc (.cells #[.int .i64 a,.slice A1 cs.length c1,.slice A2 rs.length c2] 25)).alloc (.cells #[.int .i64 a,.slice A3 cs.length c3,.slice A4 rs.length c4] 25)=V at *
 have p0:=(blk_cell I0.out.m1 0).trans rfl
 have p1:=(blk_cell I0.out.m1 1).trans rfl
 have p2:=(blk_cell I0.out.m1 2).trans rfl
 have n0:=(blk_cell I0.out.m2 0).trans rfl
 have n1:=(blk_cell I0.out.m2 1).trans rfl
 have n2:=(blk_cell I0.out.m2 2).trans rfl
 go_upto_block 0 with (fail)
 clear p0 p1 p2 n0 n1 n2 HBE
 go_cut [] (fun wc=>Aside0 (SmI w wc b2 b3 #[.int .i64 a,.slice A1 cs.length c1,.slice A2 rs.length c2] #[.int .i64 a,.slice A3 cs.length c3,.slice A4 rs.length c4]))
 case first =>
  go_wp2_with fail
  go_loopg [33] cs.length (fun gg s wr=>∃ i:Nat,i≤cs.length∧cs.length-i≤gg∧s = .int .i64 i∧Aside0 (SmI w wr b2 b3 #[.int .i64 a,.slice A1 cs.length c1,.slice A2 rs.length c2] #[.int .i64 a,.slice A3 cs.length c3,.slice A4 rs.length c4]))
  case atStart=>exact ⟨0,by omega,by omega,rfl,I0⟩
  case round =>
   clear I0
   obtain ⟨i,hi,hg,rfl,I⟩:=hrel
   by_cases hlt:i<cs.length
   ·have hlti:(i:Int)<(cs.length:Int):=by omega
    have hi0:(0:Int)≤(i:Int):=by omega
    obtain ⟨ad,e1,x0,x1,x2,x3⟩:=at_T50 HR1.out (i:Int) (by omega) (by omega)
    obtain ⟨ad2,e2,y0,y1,y2,y3⟩:=at_T50 HR3.out (i:Int) (by omega) (by omega)
    simp only [Int.toNat_natCast] at x0 x1 x2 x3 y0 y1 y2 y3
    generalize rd_T50 cs (i:Int)=x at *
    have B1:=below_drew1 I.out.below
    have P0:=aK ((B1.cell (World.block_lt_of_cell? w _ x0)).trans x0)
    have P1:=aK ((B1.cell (World.block_lt_of_cell? w _ x1)).trans x1)
    have P2:=aK ((B1.cell (World.block_lt_of_cell? w _ x2)).trans x2)
    have P3:=aK ((B1.cell (World.block_lt_of_cell? w _ x3)).trans x3)
    have P4:=aK ((B1.cell (World.block_lt_of_cell? w _ y0)).trans y0)
    have P5:=aK ((B1.cell (World.block_lt_of_cell? w _ y1)).trans y1)
    have P6:=aK ((B1.cell (World.block_lt_of_cell? w _ y2)).trans y2)
    have P7:=aK ((B1.cell (World.block_lt_of_cell? w _ y3)).trans y3)
    subst e1 e2
    have P8:=aK ((blk_cell (blk_drew I.out.m1) 1).trans rfl)
    have P9:=aK ((blk_cell (blk_drew I.out.m2) 1).trans rfl)
    have J:=aK (SmI.mk (blk_drew I.out.m1) (blk_drew I.out.m2) B1)
    have HSTEP:=aK (show wrap64 ((i:Int)+1)=((i+1:Nat):Int) by have:=HL.out;unfold wrap64;omega)
    clear x0 x1 x2 x3 y0 y1 y2 y3 B1 I
    go_upto_region 6 with (fail)
    refine start_ (n:=11) (S:=fun w'=>w'.cell? ⟨b2,1,none⟩=some (.slice (some ad) cs.length c1)∧w'.cell? ⟨b3,1,none⟩=some (.slice (some ad2) cs.length c3)∧w'.cell? (ad.add (i*4))=some (.int .i64 x.f0)∧w'.cell? ⟨(ad.add (i*4)).block,(ad.add (i*4)).off+1,none⟩=some (.int .i64 x.f1)∧w'.cell? ⟨(ad.add (i*4)).block,(ad.add (i*4)).off+2,none⟩=some (.int .i64 x.f2)∧w'.cell? ⟨(ad.add (i*4)).block,(ad.add (i*4)).off+3,none⟩=some (.int .i64 x.f3)∧w'.cell? (ad2.add (i*4))=some (.int .i64 x.f0)∧w'.cell? ⟨(ad2.add (i*4)).block,(ad2.add (i*4)).off+1,none⟩=some (.int .i64 x.f1)∧w'.cell? ⟨(ad2.add (i*4)).block,(ad2.add (i*4)).off+2,none⟩=some (.int .i64 x.f2)∧w'.cell? ⟨(ad2.add (i*4)).block,(ad2.add (i*4)).off+3,none⟩=some (.int .i64 x.f3)) (ds:=[]) #[false,false,false,false,false,false,false,false,false,false,false] (by kernel_rfl) rfl rfl ⟨P8.out,P9.out,P0.out,P1.out,P2.out,P3.out,P4.out,P5.out,P6.out,P7.out⟩ (fun hHeld=>?_)
    refine pu 0 (some 36) ?_ rfl rfl (by kernel_rfl) (fun _ _ _ h=>h) (.inl ⟨by rfl,?_⟩) ?_ ?_ ?_;rotate_left;intro w';go_simp;with_reducible rfl;rotate_left;simp only [nS];rfl
    refine pu 2 (some 38) ?_ rfl rfl (by kernel_rfl) (fun _ _ _ h=>h) (.inl ⟨by rfl,?_⟩) ?_ ?_ ?_;rotate_left;intro w';go_simp;with_reducible rfl;rotate_left;simp only [nS];rfl
    refine pu 5 (some 41) ?_ rfl rfl (by kernel_rfl) (fun _ _ _ h=>h) (.inl ⟨by rfl,?_⟩) ?_ ?_ ?_;rotate_left;intro w';go_simp;with_reducible rfl;rotate_left;simp only [nS];rfl
    refine pu 7 (some 43) ?_ rfl rfl (by kernel_rfl) (fun _ _ _ h=>h) (.inl ⟨by rfl,?_⟩) ?_ ?_ ?_;rotate_left;intro w';go_simp;with_reducible rfl;rotate_left;simp only [nS];rfl
    refine tk 1 (some 37) ?_ rfl rfl (by kernel_rfl) (fun _ _ _ h=>h) (.inl ⟨by rfl,?_⟩) hHeld ?_ ?_ ?_;rotate_left;rintro w' ⟨s0,s1,s2,s3,s4,s5,s6,s7,s8,s9⟩;go_simp;with_reducible rfl;rotate_left;simp only [nS];rfl
    refine pu 3 (some 39) ?_ rfl rfl (by kernel_rfl) (fun _ _ _ h=>h) (.inl ⟨by rfl,?_⟩) ?_ ?_ ?_;rotate_left;intro w';go_simp;with_reducible rfl;rotate_left;simp only [nS];rfl
    refine tk 4 (some 40) ?_ rfl rfl (by kernel_rfl) (fun _ _ _ h=>h) (.inl ⟨by rfl,?_⟩) hHeld ?_ ?_ ?_;rotate_left;rintro w' ⟨s0,s1,s2,s3,s4,s5,s6,s7,s8,s9⟩;go_simp;with_reducible rfl;rotate_left;simp only [nS];rfl
    refine tk 6 (some 42) ?_ rfl rfl (by kernel_rfl) (fun _ _ _ h=>h) (.inl ⟨by rfl,?_⟩) hHeld ?_ ?_ ?_;rotate_left;rintro w' ⟨s0,s1,s2,s3,s4,s5,s6,s7,s8,s9⟩;go_simp;with_reducible rfl;rotate_left;simp only [nS];rfl
    refine pu 8 (some 44) ?_ rfl rfl (by kernel_rfl) (fun _ _ _ h=>h) (.inl ⟨by rfl,?_⟩) ?_ ?_ ?_;rotate_left;intro w';go_simp;with_reducible rfl;rotate_left;simp only [nS];rfl
    refine tk 9 (some 45) ?_ rfl rfl (by kernel_rfl) (fun _ _ _ h=>h) (.inl ⟨by rfl,?_⟩) hHeld ?_ ?_ ?_;rotate_left;rintro w' ⟨s0,s1,s2,s3,s4,s5,s6,s7,s8,s9⟩;go_simp;with_reducible rfl;rotate_left;simp only [nS];rfl
    refine pu 10 (some 46) ?_ rfl rfl (by kernel_rfl) (fun _ _ _ h=>h) (.inl ⟨by rfl,?_⟩) ?_ ?_ ?_;rotate_left;intro w';go_simp;with_reducible rfl;rotate_left;simp only [nS];rfl
    refine done_ (by kernel_rfl) ?_
    go_wp2
    go_roundg (cs.length-(i+1))
    case measure=>omega
    case rel=>exact ⟨i+1,by omega,by omega,by first|exact congrArg (Value.int .i64) HSTEP.out|go_num,J⟩
   ·have hlti : ¬ (i:Int)<(cs.length:Int):=by omega
    obtain rfl:i=cs.length:=by omega
    go_wp2
    go_meet
    case rel=>exact I
 case rest =>
  clear I0
  have I0:=hcut
  have p2:=(blk_cell I0.out.m1 2).trans rfl
  go_upto_block 2 with (fail)
  clear p2
  go_wp2_with fail
  go_loopg [51] rs.length (fun gg s wr=>∃ i:Nat,i≤rs.length∧rs.length-i≤gg∧s = .int .i64 i∧Aside0 (SmI w wr b2 b3 #[.int .i64 a,.slice A1 cs.length c1,.slice A2 rs.length c2] #[.int .i64 a,.slice A3 cs.length c3,.slice A4 rs.length c4]))
  case atStart=>exact ⟨0,by omega,by omega,rfl,I0⟩
  case round =>
   clear I0
   obtain ⟨i,hi,hg,rfl,I⟩:=hrel
   by_cases hlt:i<rs.length
   ·have hlti:(i:Int)<(rs.length:Int):=by omega
    have hi0:(0:Int)≤(i:Int):=by omega
    obtain ⟨ad,e1,x0,x1,x2,x3⟩:=at_T45 HR2.out (i:Int) (by omega) (by omega)
    obtain ⟨ad2,e2,y0,y1,y2,y3⟩:=at_T45 HR4.out (i:Int) (by omega) (by omega)
    simp only [Int.toNat_natCast] at x0 x1 x2 x3 y0 y1 y2 y3
    generalize rd_T45 rs (i:Int)=x at *
    have B1:=below_drew1 I.out.below
    have P0:=aK ((B1.cell (World.block_lt_of_cell? w _ x0)).trans x0)
    have P1:=aK ((B1.cell (World.block_lt_of_cell? w _ x1)).trans x1)
    have P2:=aK ((B1.cell (World.block_lt_of_cell? w _ x2)).trans x2)
    have P3:=aK ((B1.cell (World.block_lt_of_cell? w _ x3)).trans x3)
    have P4:=aK ((B1.cell (World.block_lt_of_cell? w _ y0)).trans y0)
    have P5:=aK ((B1.cell (World.block_lt_of_cell? w _ y1)).trans y1)
    have P6:=aK ((B1.cell (World.block_lt_of_cell? w _ y2)).trans y2)
    have P7:=aK ((B1.cell (World.block_lt_of_cell? w _ y3)).trans y3)
    subst e1 e2
    have P8:=aK ((blk_cell (blk_drew I.out.m1) 2).trans rfl)
    have P9:=aK ((blk_cell (blk_drew I.out.m2) 2).trans rfl)
    have J:=aK (SmI.mk (blk_drew I.out.m1) (blk_drew I.out.m2) B1)
    have HSTEP:=aK (show wrap64 ((i:Int)+1)=((i+1:Nat):Int) by have:=HL2.out;unfold wrap64;omega)
    clear x0 x1 x2 x3 y0 y1 y2 y3 B1 I
    go_upto_region 12 with (fail)
    refine start_ (n:=11) (S:=fun w'=>w'.cell? ⟨b2,2,none⟩=some (.slice (some ad) rs.length c2)∧w'.cell? ⟨b3,2,none⟩=some (.slice (some ad2) rs.length c4)∧w'.cell? (ad.add (i*4))=some (.int .i64 x.f0)∧w'.cell? ⟨(ad.add (i*4)).block,(ad.add (i*4)).off+1,none⟩=some (.int .i64 x.f1)∧w'.cell? ⟨(ad.add (i*4)).block,(ad.add (i*4)).off+2,none⟩=some (.int .i64 x.f2)∧w'.cell? ⟨(ad.add (i*4)).block,(ad.add (i*4)).off+3,none⟩=some (.int .i64 x.f3)∧w'.cell? (ad2.add (i*4))=some (.int .i64 x.f0)∧w'.cell? ⟨(ad2.add (i*4)).block,(ad2.add (i*4)).off+1,none⟩=some (.int .i64 x.f1)∧w'.cell? ⟨(ad2.add (i*4)).block,(ad2.add (i*4)).off+2,none⟩=some (.int .i64 x.f2)∧w'.cell? ⟨(ad2.add (i*4)).block,(ad2.add (i*4)).off+3,none⟩=some (.int .i64 x.f3)) (ds:=[]) #[false,false,false,false,false,false,false,false,false,false,false] (by kernel_rfl) rfl rfl ⟨P8.out,P9.out,P0.out,P1.out,P2.out,P3.out,P4.out,P5.out,P6.out,P7.out⟩ (fun hHeld=>?_)
    refine pu 0 (some 54) ?_ rfl rfl (by kernel_rfl) (fun _ _ _ h=>h) (.inl ⟨by rfl,?_⟩) ?_ ?_ ?_;rotate_left;intro w';go_simp;with_reducible rfl;rotate_left;simp only [nS];rfl
    refine pu 2 (some 56) ?_ rfl rfl (by kernel_rfl) (fun _ _ _ h=>h) (.inl ⟨by rfl,?_⟩) ?_ ?_ ?_;rotate_left;intro w';go_simp;with_reducible rfl;rotate_left;simp only [nS];rfl
    refine pu 5 (some 59) ?_ rfl rfl (by kernel_rfl) (fun _ _ _ h=>h) (.inl ⟨by rfl,?_⟩) ?_ ?_ ?_;rotate_left;intro w';go_simp;with_reducible rfl;rotate_left;simp only [nS];rfl
    refine pu 7 (some 61) ?_ rfl rfl (by kernel_rfl) (fun _ _ _ h=>h) (.inl ⟨by rfl,?_⟩) ?_ ?_ ?_;rotate_left;intro w';go_simp;with_reducible rfl;rotate_left;simp only [nS];rfl
    refine tk 1 (some 55) ?_ rfl rfl (by kernel_rfl) (fun _ _ _ h=>h) (.inl ⟨by rfl,?_⟩) hHeld ?_ ?_ ?_;rotate_left;rintro w' ⟨s0,s1,s2,s3,s4,s5,s6,s7,s8,s9⟩;go_simp;with_reducible rfl;rotate_left;simp only [nS];rfl
    refine pu 3 (some 57) ?_ rfl rfl (by kernel_rfl) (fun _ _ _ h=>h) (.inl ⟨by rfl,?_⟩) ?_ ?_ ?_;rotate_left;intro w';go_simp;with_reducible rfl;rotate_left;simp only [nS];rfl
    refine tk 4 (some 58) ?_ rfl rfl (by kernel_rfl) (fun _ _ _ h=>h) (.inl ⟨by rfl,?_⟩) hHeld ?_ ?_ ?_;rotate_left;rintro w' ⟨s0,s1,s2,s3,s4,s5,s6,s7,s8,s9⟩;go_simp;with_reducible rfl;rotate_left;simp only [nS];rfl
    refine tk 6 (some 60) ?_ rfl rfl (by kernel_rfl) (fun _ _ _ h=>h) (.inl ⟨by rfl,?_⟩) hHeld ?_ ?_ ?_;rotate_left;rintro w' ⟨s0,s1,s2,s3,s4,s5,s6,s7,s8,s9⟩;go_simp;with_reducible rfl;rotate_left;simp only [nS];rfl
    refine pu 8 (some 62) ?_ rfl rfl (by kernel_rfl) (fun _ _ _ h=>h) (.inl ⟨by rfl,?_⟩) ?_ ?_ ?_;rotate_left;intro w';go_simp;with_reducible rfl;rotate_left;simp only [nS];rfl
    refine tk 9 (some 63) ?_ rfl rfl (by kernel_rfl) (fun _ _ _ h=>h) (.inl ⟨by rfl,?_⟩) hHeld ?_ ?_ ?_;rotate_left;rintro w' ⟨s0,s1,s2,s3,s4,s5,s6,s7,s8,s9⟩;go_simp;with_reducible rfl;rotate_left;simp only [nS];rfl
    refine pu 10 (some 64) ?_ rfl rfl (by kernel_rfl) (fun _ _ _ h=>h) (.inl ⟨by rfl,?_⟩) ?_ ?_ ?_;rotate_left;intro w';go_simp;with_reducible rfl;rotate_left;simp only [nS];rfl
    refine done_ (by kernel_rfl) ?_
    go_wp2
    go_roundg (rs.length-(i+1))
    case measure=>omega
    case rel=>exact ⟨i+1,by omega,by omega,by first|exact congrArg (Value.int .i64) HSTEP.out|go_num,J⟩
   ·have hlti : ¬ (i:Int)<(rs.length:Int):=by omega
    obtain rfl:i=rs.length:=by omega
    go_wp2
    go_ret
    exact ⟨rfl,I.out.below⟩
def api_CharMetric_62.f (l0:List S50):Option (List S50):=if l0.length<4398046511104 then some l0 else none
set_option maxHeartbeats 4000000 in
theorem api_CharMetric_62.calls (A0 : Option Addr) (c0 : Nat) (l0 : List S50) (r : List S50) (w : World) (hr0 : Kd.C k50 w A0 l0.length l0) (hc0 : l0.length ≤ c0) (h : api_CharMetric_62.f l0 = some r) :
  Calls Tryz.prog 62 #[.slice A0 l0.length c0] w fun e w'=>∃ v0_:Value,e = .returned (v0_)∧Kd.R k50 50 w' w.heap.size (fun _=>True) v0_ r∧Below w.heap.size w w':=by
 unfold api_CharMetric_62.f at h
 by_cases hl:l0.length<4398046511104
 ·rw [if_pos hl] at h
  obtain rfl:l0=r:=Option.some.inj h
  have hnil:=fun (V:World) (A0:Option Addr) (n c:Nat)=>Lib.run_eql_slice_nil (P:=Tryz.prog) V 22 50 A0 n c 0 0 Tryz.underlying22
  have HR0:=aK hr0
  have HL:=aK hl
  clear hr0 h hl
  have HB:=aK (Below.refl w.heap.size w)
  cases A0 with
  | none =>
   have he:l0=[]:=by
    rcases Nat.eq_zero_or_pos l0.length with h0|h0
    ·exact List.length_eq_zero_iff.mp h0
    ·obtain ⟨ad,e,_⟩:=HR0.out.2.2 h0
     cases e
   subst he
   go_enter Tryz.func62,Tryz.ntmps62
   go_wp2
   go_ret
   exact ⟨_,rfl,Kd.R_nil _ _ _ _ _,Below.refl _ _⟩
  | some ad =>
   go_enter Tryz.func62,Tryz.ntmps62
   go_wp2_with (first|((with_reducible refine gate_dst (N:=5) rfl ?_);refine Kd.R_lit k50 _ 50 ?hg (N:=5) ?hd (xs:=([]:List S50)) (inner:=[]) (ok:=fun _=>True) (okp:=fun _=>True) ?hr ?hp (fun _ hk=>hk) trivial (Below.refl _ _) (Nat.le_refl _) (by simp) ?_;(case hd=>rfl);(case hg=>rfl);(case hr=>first|(go_simp;done)|(go_simp;rfl));(case hp=>exact (Reps.none _ _));intro v187 w3 ho4 hb hg_ hnew_;clear hg_ hnew_;have n0_:=aK (Kd.R_lower ho4 (below_size HB.out));have n1_:=aK (below_step HB.out hb);clear HB;have HO188:=n0_;have HB:=n1_;clear n0_ n1_;clear hb ho4)|((with_reducible refine gate_builtin (b:=.append) (xs:=#[.tmp 5,.tmp 6]) rfl ?_);at_builtin;refine Kd.R_append_rows k50 (w0:=w) w.heap.size rfl (.tmp 5) (.tmp 6) 22 50 (.agg #[(.int .i64 0),(.int .i64 0),(.int .i64 0),(.int .i64 0)]) 32 rfl Tryz.underlying22 info50 rfl (by decide) (by omega) v187 [] l0 _ _ _ (fun _=>True) (fun _=>False) rfl rfl ?aO ?aR (fun _ _ h=>h) (fun _ h=>h.elim) ?aF ?aB ?aS ?aL ?_;(case aR=>repeat (first|exact (Kd.C_below HR0.out HB.out)|(with_reducible refine Kd.C_alloc ?_ _)|(with_reducible refine Kd.C_drewN ?_ _)|(with_reducible refine Kd.C_drew ?_)));(case aB=>exact (by repeat (first|(with_reducible first|exact HB.out|apply below_alloc|apply pw_below_drewN|apply below_drew1)|exact HB.out)));(case aF=>exact (fun _ _=>trivial));(case aO=>exact (by (with_reducible repeat (first|apply Kd.R_alloc|apply Kd.R_drewN|apply Kd.R_drew));exact HO188.out));(case aS=>exact (below_size (by repeat (first|(with_reducible first|exact HB.out|apply below_alloc|apply pw_below_drewN|apply below_drew1)|exact HB.out))));(case aL=>have:=HL.out;simp only [List.length_nil];omega);intro v190 w5 ho hb hg hat;have n0_:=aK (hb);have n1_:=aK (ho);clear HB;clear HO188;have HB:=n0_;have HO191:=n1_;clear n0_ n1_;clear ho hb hg hat))
   go_ret
   exact ⟨_,rfl,by (with_reducible repeat (first|apply Kd.R_alloc|apply Kd.R_drewN|apply Kd.R_drew));exact HO191.out,by repeat (first|(with_reducible first|exact HB.out|apply below_alloc|apply pw_below_drewN|apply below_drew1)|exact HB.out)⟩
 ·rw [if_neg hl] at h
  exact absurd h (by simp)
def api_LigRule_63.f (l0:List S45):Option (List S45):=if l0.length<4398046511104 then some l0 else none
set_option maxHeartbeats 4000000 in
theorem api_LigRule_63.calls (A0 : Option Addr) (c0 : Nat) (l0 : List S45) (r : List S45) (w : World) (hr0 : Kd.C k45 w A0 l0.length l0) (hc0 : l0.length ≤ c0) (h : api_LigRule_63.f l0 = some r) :
  Calls Tryz.prog 63 #[.slice A0 l0.length c0] w fun e w'=>∃ v0_:Value,e = .returned (v0_)∧Kd.R k45 45 w' w.heap.size (fun _=>True) v0_ r∧Below w.heap.size w w':=by
 unfold api_LigRule_63.f at h
 by_cases hl:l0.length<4398046511104
 ·rw [if_pos hl] at h
  obtain rfl:l0=r:=Option.some.inj h
  have hnil:=fun (V:World) (A0:Option Addr) (n c:Nat)=>Lib.run_eql_slice_nil (P:=Tryz.prog) V 23 45 A0 n c 0 0 Tryz.underlying23
  have HR0:=aK hr0
  have HL:=aK hl
  clear hr0 h hl
  have HB:=aK (Below.refl w.heap.size w)
  cases A0 with
  | none =>
   have he:l0=[]:=by
    rcases Nat.eq_zero_or_pos l0.length with h0|h0
    ·exact List.length_eq_zero_iff.mp h0
    ·obtain ⟨ad,e,_⟩:=HR0.out.2.2 h0
     cases e
   subst he
   go_enter Tryz.func63,Tryz.ntmps63
   go_wp2
   go_ret
   exact ⟨_,rfl,Kd.R_nil _ _ _ _ _,Below.refl _ _⟩
  | some ad =>
   go_enter Tryz.func63,Tryz.ntmps63
   go_wp2_with (first|((with_reducible refine gate_dst (N:=5) rfl ?_);refine Kd.R_lit k45 _ 45 ?hg (N:=5) ?hd (xs:=([]:List S45)) (inner:=[]) (ok:=fun _=>True) (okp:=fun _=>True) ?hr ?hp (fun _ hk=>hk) trivial (Below.refl _ _) (Nat.le_refl _) (by simp) ?_;(case hd=>rfl);(case hg=>rfl);(case hr=>first|(go_simp;done)|(go_simp;rfl));(case hp=>exact (Reps.none _ _));intro v187 w3 ho4 hb hg_ hnew_;clear hg_ hnew_;have n0_:=aK (Kd.R_lower ho4 (below_size HB.out));have n1_:=aK (below_step HB.out hb);clear HB;have HO188:=n0_;have HB:=n1_;clear n0_ n1_;clear hb ho4)|((with_reducible refine gate_builtin (b:=.append) (xs:=#[.tmp 5,.tmp 6]) rfl ?_);at_builtin;refine Kd.R_append_rows k45 (w0:=w) w.heap.size rfl (.tmp 5) (.tmp 6) 23 45 (.agg #[(.int .i64 0),(.int .i64 0),(.int .i64 0),(.int .i64 0)]) 32 rfl Tryz.underlying23 info45 rfl (by decide) (by omega) v187 [] l0 _ _ _ (fun _=>True) (fun _=>False) rfl rfl ?aO ?aR (fun _ _ h=>h) (fun _ h=>h.elim) ?aF ?aB ?aS ?aL ?_;(case aR=>repeat (first|exact (Kd.C_below HR0.out HB.out)|(with_reducible refine Kd.C_alloc ?_ _)|(with_reducible refine Kd.C_drewN ?_ _)|(with_reducible refine Kd.C_drew ?_)));(case aB=>exact (by repeat (first|(with_reducible first|exact HB.out|apply below_alloc|apply pw_below_drewN|apply below_drew1)|exact HB.out)));(case aF=>exact (fun _ _=>trivial));(case aO=>exact (by (with_reducible repeat (first|apply Kd.R_alloc|apply Kd.R_drewN|apply Kd.R_drew));exact HO188.out));(case aS=>exact (below_size (by repeat (first|(with_reducible first|exact HB.out|apply below_alloc|apply pw_below_drewN|apply below_drew1)|exact HB.out))));(case aL=>have:=HL.out;simp only [List.length_nil];omega);intro v190 w5 ho hb hg hat;have n0_:=aK (hb);have n1_:=aK (ho);clear HB;clear HO188;have HB:=n0_;have HO191:=n1_;clear n0_ n1_;clear ho hb hg hat))
   go_ret
   exact ⟨_,rfl,by (with_reducible repeat (first|apply Kd.R_alloc|apply Kd.R_drewN|apply Kd.R_drew));exact HO191.out,by repeat (first|(with_reducible first|exact HB.out|apply below_alloc|apply pw_below_drewN|apply below_drew1)|exact HB.out)⟩
 ·rw [if_neg hl] at h
  exact absurd h (by simp)
theorem holds_row {w:World} {g:Nat} {cur:Array Value} {e:TypeId} {vs:List Value} (hb:w.heap[g]?=some (.cells cur e (0,0))) (ht:cur.toList.take vs.length=vs):Go.Sort.Holds id w g 0 vs.toArray:=by
 intro j hj
 have hj':j<vs.length:=by simpa using hj
 refine ⟨?_,by simp [World.frozen?,hb]⟩
 have h1:(cur.toList.take vs.length)[j]?=vs[j]?:=by rw [ht]
 rw [List.getElem?_take_of_lt hj'] at h1
 simp only [World.cell?,hb,Nat.zero_add]
 simp only [Option.isSome_none,Bool.false_eq_true,if_false]
 rw [← Array.getElem?_toList,h1]
 simp [hj']
theorem heap_row {w : World} {g n : Nat} {cur : Array Value} {e : TypeId} {fr : Nat × Nat} (d : Array Value) (hb : w.heap[g]? = some (.cells cur e fr)) :
  (Go.Sort.putRow id (Go.Sort.ahead w n) g 0 d).heap[g]?=some (.cells (Go.Sort.putCells id 0 d cur) e fr):=by
 simp [Go.Sort.putRow,Go.Sort.mapBlock,Go.Sort.ahead,Array.getElem?_modify,hb,Go.Sort.onCells]
theorem grownBy_row {w:World} {g n:Nat} (d:Array Value):w.grownBy (Go.Sort.putRow id (Go.Sort.ahead w n) g 0 d) (some g):=by
 refine ⟨rfl,rfl,rfl,by simp [Go.Sort.putRow,Go.Sort.mapBlock,Go.Sort.ahead],fun k hk hne=>?_⟩
 have:g≠k:=fun e=>hne (by rw [e])
 simp [Go.Sort.putRow,Go.Sort.mapBlock,Go.Sort.ahead,Array.getElem?_modify,this]
theorem take_row (cur F:Array Value) (h:F.size≤cur.size):(Go.Sort.putCells id 0 F cur).toList.take F.size=F.toList:=by
 apply List.ext_getElem?
 intro j
 by_cases hj:j<F.size
 ·rw [List.getElem?_take_of_lt hj,Array.getElem?_toList]
  simp [Go.Sort.putCells,hj,show j<cur.size by omega]
 ·rw [List.getElem?_take_eq_none (by omega),List.getElem?_eq_none (by simp;omega)]
instance inst4C:Inhabited S50:=⟨z50⟩
def enc4C (x:S50):List Value:=[.int .i64 x.f0,.int .i64 x.f1,.int .i64 x.f2,.int .i64 x.f3]
theorem get_flat4C (xs:List S50) (j:Nat) (hj:j<xs.length) (q:Nat) (hq:q<4):(Go.Sort.flatK enc4C 4 xs.toArray)[j*4+q]?=(enc4C xs[j])[q]?:=by
 have h1:j*4+q<xs.length*4:=by omega
 have h2:(j*4+q) / 4=j:=by omega
 have h3:(j*4+q) % 4=q:=by omega
 have h4:=Go.Sort.get_flatK enc4C 4 xs.toArray (j*4+q) (by simpa using h1)
 rw [h2,h3] at h4
 have h5:j*4+q<(Go.Sort.flatK enc4C 4 xs.toArray).size:=by simpa using h1
 have h6:xs.toArray[j]! = xs[j]:=by simp [hj]
 rw [h6,getElem!_pos (Go.Sort.flatK enc4C 4 xs.toArray) (j*4+q) h5] at h4
 rw [Array.getElem?_eq_getElem h5,h4]
 have h7:q<(enc4C xs[j]).length:=hq
 rw [getElem!_pos (enc4C xs[j]) q h7,List.getElem?_eq_getElem h7]
theorem cells_flat4C {w:World} {base:Nat} {ok:Nat→Prop} {xs:List S50} {cs:List Value} (h:Reps (k50.M w base ok) k50.sz xs cs):Go.Sort.flatK enc4C 4 xs.toArray=cs.toArray:=by
 obtain ⟨h1,h2⟩:=h
 have h1':cs.length=xs.length*4:=h1
 apply Array.ext_getElem?
 intro t
 by_cases ht:t<xs.length*4
 ·obtain ⟨j,q,hq,rfl⟩ : ∃ j q,q<4∧t=j*4+q:=⟨t / 4,t % 4,by omega,by omega⟩
  have hj:j<xs.length:=by omega
  rw [get_flat4C xs j hj q hq]
  have h3:=k50_openM (h2 j xs[j] (List.getElem?_eq_getElem hj))
  have h4:(cs.drop (j*4)).take 4=enc4C xs[j]:=h3
  rw [← h4,List.getElem?_take_of_lt hq,List.getElem?_drop]
  simp
 ·rw [Array.getElem?_eq_none (by simp;omega),Array.getElem?_eq_none (by simp;omega)]
theorem reps_flat4C {w:World} {base:Nat} {ok:Nat→Prop} (xs:List S50):Reps (k50.M w base ok) k50.sz xs (Go.Sort.flatK enc4C 4 xs.toArray).toList:=by
 refine ⟨by simp;rfl,fun j p hj=>?_⟩
 obtain ⟨hx,rfl⟩:=List.getElem?_eq_some_iff.1 hj
 have h:(((Go.Sort.flatK enc4C 4 xs.toArray).toList.drop (j*4)).take 4)=enc4C xs[j]:=by
  apply List.ext_getElem?
  intro q
  by_cases hq:q<4
  ·rw [List.getElem?_take_of_lt hq,List.getElem?_drop,Array.getElem?_toList,get_flat4C xs j hx q hq]
  ·rw [List.getElem?_take_eq_none (by omega),List.getElem?_eq_none (by simp [enc4C];omega)]
 show k50.M w base ok xs[j] (((Go.Sort.flatK enc4C 4 xs.toArray).toList.drop (j*4)).take 4)
 rw [h]
 exact k50_mkM w base ok xs[j]
theorem cmpC_lays (blk off size:Nat) (w:World):CmpLays Tryz.prog 36 #[] enc4C 4 cmpC blk off size w:=fun m os dk _ x y =>
 (cmpC_grows x y _).mono fun e w' ⟨he,hb,hd⟩=>⟨he,grow_of_belowX hb hd⟩
def RiseC (r:List S50):Prop:=r.Pairwise fun x y=>¬ cmpC y x<0
theorem cmpI_lt (x y:Int):cmpI x y<0↔x<y:=by unfold cmpI;(repeat' split) <;> omega
theorem cmpI_eq (x y:Int):cmpI x y=0↔x=y:=by unfold cmpI;(repeat' split) <;> omega
theorem cmpC_swo:Go.Sort.SWO (ltOf cmpC):=by
 refine ⟨fun x=>?_,fun x y z h1 h2=>?_,fun x y z h1 h2=>?_⟩ <;> simp only [ltOf,decide_eq_true_eq,decide_eq_false_iff_not,cmpC,cmpI_lt] at * <;> omega
theorem sorted4C {l0 r:List S50} (hP:Go.Sort.PermIn 0 l0.toArray.size l0.toArray r.toArray) (hS:Go.Sort.SortedIn (ltOf cmpC) 0 l0.toArray.size r.toArray):r.Perm l0∧RiseC r:=by
 obtain ⟨h1,_,h2⟩:=hP
 have hn:r.length=l0.length:=by simpa using h1
 refine ⟨?_,?_⟩
 ·have e1:(r.toArray.extract 0 l0.toArray.size).toList=r:=by simp [← hn]
  have e2:(l0.toArray.extract 0 l0.toArray.size).toList=l0:=by simp
  rwa [e1,e2] at h2
 ·unfold RiseC
  rw [List.pairwise_iff_getElem]
  intro i j hi hj hij
  have h:=hS i j (Nat.zero_le _) hij (by simpa [← hn] using hj)
  have ei:r.toArray[i]! = r[i]:=by simp [hi]
  have ej:r.toArray[j]! = r[j]:=by simp [hj]
  rw [ei,ej] at h
  simpa only [ltOf,decide_eq_false_iff_not] using h
set_option maxHeartbeats 4000000 in
theorem sortNilC (w:World):Calls Tryz.prog 90 #[.slice none 0 0,.func (.func 36) #[] #[]] w fun e w'=>e = .returned (.tuple #[])∧w'=w:=by
 have hi : ∀ V,Calls Tryz.prog 110 #[.slice none 0 0,.int .i64 0,.int .i64 0,.func (.func 36) #[] #[]] V fun e w'=>e = .returned (.tuple #[])∧w'=V:=by
  intro V
  go_enter Tryz.func110,Tryz.ntmps110
  go_wp2
  refine wp_loop_rounds 1 ?_
  rw [rounds_succ]
  go_wp2
  go_end0
  exact ⟨rfl,rfl⟩
 have hs : ∀ V,Calls Tryz.prog 105 #[.slice none 0 0,.int .i64 0,.func (.func 36) #[] #[]] V fun e w'=>e = .returned (.tuple #[])∧w'=V:=by
  intro V
  have HI:=aK hi
  clear hi
  go_enter Tryz.func105,Tryz.ntmps105
  go_wp2
  refine wp_loop_rounds 1 ?_
  rw [rounds_succ]
  go_wp2_with fail
  refine (HI.out _).mono ?_
  rintro e w1 ⟨rfl,rfl⟩
  go_wp2
  refine wp_loop_rounds 1 ?_
  rw [rounds_succ]
  go_wp2
  go_end0
  exact ⟨rfl,rfl⟩
 clear hi
 go_enter Tryz.func90,Tryz.ntmps90
 go_wp2_with fail
 refine (hs _).mono ?_
 rintro e w1 ⟨rfl,rfl⟩
 go_wp2
 go_end0
 exact ⟨rfl,rfl⟩
theorem api_CharMetric_90.calls (P0_ : Nat → Prop) (u9000_ : Value) (l0 : List S50) (w0 w : World) (hB : Below w0.heap.size w0 w) (ho0 : Kd.R k50 50 w w0.heap.size P0_ u9000_ l0) (hl : l0.length < 1152921504606846976) :
  Calls Tryz.prog 90 #[u9000_,.func (.func 36) #[] #[]] w fun e w'=>e = .returned (.tuple #[])∧∃ r,r.Perm l0∧RiseC r∧Kd.R k50 50 w' w0.heap.size (fun k_=>(P0_ k_∨w.heap.size≤k_)) u9000_ r∧Below w0.heap.size w0 w'∧Kept w w' (fun k_=>P0_ k_):=by
 obtain ⟨h0,inner,ho,hr⟩:=ho0
 have hi:=cells_flat4C hr
 rcases ho.2 with ⟨rfl,hn⟩|⟨g,cap,cur,rfl,hbase,hh,hle,hcap,hsz,htk⟩
 ·have hl0:l0=[]:=List.length_eq_zero_iff.mp hn
  subst hl0
  refine (sortNilC w).mono ?_
  rintro e w' ⟨rfl,rfl⟩
  exact ⟨rfl,[],List.Perm.refl _,List.Pairwise.nil,Kd.R_nil _ _ _ _ _,hB,Kept.refl _ _⟩
 ·have hk2:k50.sz=4:=rfl
  rw [hk2] at hsz htk
  have hin:inner.length=l0.length*4:=hr.1
  have hH:Go.Sort.HoldsK enc4C 4 w g 0 l0.toArray:=by
   unfold Go.Sort.HoldsK
   rw [hi]
   exact holds_row hh (by rw [hin];exact htk)
  have hlt:=lt_of_block hh
  refine (Sym.sortStableC 4 Tryz.isAgg50 Tryz.sizeOf50 enc4C cmpC cmpC_swo 36 #[] g 0 cap l0.toArray w (enters_own Tryz.func36 (by kernel_rfl) rfl) (cmpC_lays _ _ _ _) ⟨fun _=>rfl,fun x v hv=>by simp [enc4C] at hv;rcases hv with rfl|rfl|rfl|rfl <;> rfl,hH,hlt⟩ (by simpa using hl)).mono ?_
  rintro e w' ⟨rfl,d,hP,hS,⟨n,os,rfl⟩⟩
  obtain ⟨r,rfl⟩ : ∃ r:List S50,d=r.toArray:=⟨d.toList,by simp⟩
  obtain ⟨hperm,hrise⟩:=sorted4C hP hS
  have hlen:r.length=l0.length:=hperm.length_eq
  unfold sortWorldK Go.Sort.putRowK
  have hF:(Go.Sort.flatK enc4C 4 r.toArray).size=l0.length*4:=by simp [hlen]
  have hg0:w.grownBy (Go.Sort.putRow id (Go.Sort.ahead w n) g 0 (Go.Sort.flatK enc4C 4 r.toArray)) (some g):=grownBy_row _
  have hgw : ∀ (V:World),V.grownBy (Go.Sort.grow V os) none:=fun V=>⟨rfl,rfl,rfl,by simp [Go.Sort.grow],fun k hk _=>by simp [Go.Sort.grow,Array.getElem?_append,hk]⟩
  have hg:w.grownBy (Go.Sort.grow (Go.Sort.putRow id (Go.Sort.ahead w n) g 0 (Go.Sort.flatK enc4C 4 r.toArray)) os) (some g):=by
   have h2:=hgw (Go.Sort.putRow id (Go.Sort.ahead w n) g 0 (Go.Sort.flatK enc4C 4 r.toArray))
   exact ⟨h2.os.trans hg0.os,h2.tape.trans hg0.tape,h2.output.trans hg0.output,Nat.le_trans hg0.size h2.size,fun k hk hne=>(h2.block k (Nat.lt_of_lt_of_le hk hg0.size) (by simp)).trans (hg0.block k hk hne)⟩
  have hok:P0_ g:=h0 g (by simp [Value.ownBlock])
  refine ⟨rfl,r,hperm,hrise,?_,?_,?_⟩
  ·refine ⟨fun k hk=>Or.inl (h0 k hk),(Go.Sort.flatK enc4C 4 r.toArray).toList,?_,reps_flat4C r⟩
   have hb2:(Go.Sort.grow (Go.Sort.putRow id (Go.Sort.ahead w n) g 0 (Go.Sort.flatK enc4C 4 r.toArray)) os).heap[g]?=some (.cells (Go.Sort.putCells id 0 (Go.Sort.flatK enc4C 4 r.toArray) cur) 50 (0,0)):=by
    have h2:=(hgw (Go.Sort.putRow id (Go.Sort.ahead w n) g 0 (Go.Sort.flatK enc4C 4 r.toArray))).block g (Nat.lt_of_lt_of_le hlt hg0.size) (by simp)
    rw [h2]
    exact heap_row _ hh
   refine ⟨by rw [hk2,Array.length_toList,hF,hlen],.inr ⟨g,cap,_,by rw [hlen],hbase,hb2,by omega,hcap,by rw [hk2];simp [Go.Sort.putCells,hsz],?_⟩⟩
   have:=take_row cur (Go.Sort.flatK enc4C 4 r.toArray) (by rw [hF,hsz];omega)
   rw [hk2,hlen]
   rw [hF] at this
   exact this
  ·exact hB.grown hg hB.size (fun k hk=>by injection hk with hk;omega)
  ·exact Kept.of_grown hg (Kept.refl w _) (fun k hk=>by injection hk with hk;subst hk;exact Or.inl hok)
instance inst4R:Inhabited S45:=⟨z45⟩
def enc4R (x:S45):List Value:=[.int .i64 x.f0,.int .i64 x.f1,.int .i64 x.f2,.int .i64 x.f3]
theorem get_flat4R (xs:List S45) (j:Nat) (hj:j<xs.length) (q:Nat) (hq:q<4):(Go.Sort.flatK enc4R 4 xs.toArray)[j*4+q]?=(enc4R xs[j])[q]?:=by
 have h1:j*4+q<xs.length*4:=by omega
 have h2:(j*4+q) / 4=j:=by omega
 have h3:(j*4+q) % 4=q:=by omega
 have h4:=Go.Sort.get_flatK enc4R 4 xs.toArray (j*4+q) (by simpa using h1)
 rw [h2,h3] at h4
 have h5:j*4+q<(Go.Sort.flatK enc4R 4 xs.toArray).size:=by simpa using h1
 have h6:xs.toArray[j]! = xs[j]:=by simp [hj]
 rw [h6,getElem!_pos (Go.Sort.flatK enc4R 4 xs.toArray) (j*4+q) h5] at h4
 rw [Array.getElem?_eq_getElem h5,h4]
 have h7:q<(enc4R xs[j]).length:=hq
 rw [getElem!_pos (enc4R xs[j]) q h7,List.getElem?_eq_getElem h7]
theorem cells_flat4R {w:World} {base:Nat} {ok:Nat→Prop} {xs:List S45} {cs:List Value} (h:Reps (k45.M w base ok) k45.sz xs cs):Go.Sort.flatK enc4R 4 xs.toArray=cs.toArray:=by
 obtain ⟨h1,h2⟩:=h
 have h1':cs.length=xs.length*4:=h1
 apply Array.ext_getElem?
 intro t
 by_cases ht:t<xs.length*4
 ·obtain ⟨j,q,hq,rfl⟩ : ∃ j q,q<4∧t=j*4+q:=⟨t / 4,t % 4,by omega,by omega⟩
  have hj:j<xs.length:=by omega
  rw [get_flat4R xs j hj q hq]
  have h3:=k45_openM (h2 j xs[j] (List.getElem?_eq_getElem hj))
  have h4:(cs.drop (j*4)).take 4=enc4R xs[j]:=h3
  rw [← h4,List.getElem?_take_of_lt hq,List.getElem?_drop]
  simp
 ·rw [Array.getElem?_eq_none (by simp;omega),Array.getElem?_eq_none (by simp;omega)]
theorem reps_flat4R {w:World} {base:Nat} {ok:Nat→Prop} (xs:List S45):Reps (k45.M w base ok) k45.sz xs (Go.Sort.flatK enc4R 4 xs.toArray).toList:=by
 refine ⟨by simp;rfl,fun j p hj=>?_⟩
 obtain ⟨hx,rfl⟩:=List.getElem?_eq_some_iff.1 hj
 have h:(((Go.Sort.flatK enc4R 4 xs.toArray).toList.drop (j*4)).take 4)=enc4R xs[j]:=by
  apply List.ext_getElem?
  intro q
  by_cases hq:q<4
  ·rw [List.getElem?_take_of_lt hq,List.getElem?_drop,Array.getElem?_toList,get_flat4R xs j hx q hq]
  ·rw [List.getElem?_take_eq_none (by omega),List.getElem?_eq_none (by simp [enc4R];omega)]
 show k45.M w base ok xs[j] (((Go.Sort.flatK enc4R 4 xs.toArray).toList.drop (j*4)).take 4)
 rw [h]
 exact k45_mkM w base ok xs[j]
theorem cmpR_lays (blk off size:Nat) (w:World):CmpLays Tryz.prog 55 #[] enc4R 4 cmpR blk off size w:=fun m os dk _ x y =>
 (cmpR_grows x y _).mono fun e w' ⟨he,hb,hd⟩=>⟨he,grow_of_belowX hb hd⟩
def RiseR (r:List S45):Prop:=r.Pairwise fun x y=>¬ cmpR y x<0
theorem cmpR_lt (x y:S45):cmpR x y<0↔x.f0<y.f0∨(x.f0=y.f0∧x.f1<y.f1):=by
 unfold cmpR
 by_cases h:cmpI x.f0 y.f0=0
 ·rw [if_pos h,cmpI_lt];rw [cmpI_eq] at h;omega
 ·rw [if_neg h,cmpI_lt];rw [cmpI_eq] at h;omega
theorem cmpR_swo:Go.Sort.SWO (ltOf cmpR):=by
 refine ⟨fun x=>?_,fun x y z h1 h2=>?_,fun x y z h1 h2=>?_⟩ <;> simp only [ltOf,decide_eq_true_eq,decide_eq_false_iff_not,cmpR_lt] at * <;> omega
theorem sorted4R {l0 r:List S45} (hP:Go.Sort.PermIn 0 l0.toArray.size l0.toArray r.toArray) (hS:Go.Sort.SortedIn (ltOf cmpR) 0 l0.toArray.size r.toArray):r.Perm l0∧RiseR r:=by
 obtain ⟨h1,_,h2⟩:=hP
 have hn:r.length=l0.length:=by simpa using h1
 refine ⟨?_,?_⟩
 ·have e1:(r.toArray.extract 0 l0.toArray.size).toList=r:=by simp [← hn]
  have e2:(l0.toArray.extract 0 l0.toArray.size).toList=l0:=by simp
  rwa [e1,e2] at h2
 ·unfold RiseR
  rw [List.pairwise_iff_getElem]
  intro i j hi hj hij
  have h:=hS i j (Nat.zero_le _) hij (by simpa [← hn] using hj)
  have ei:r.toArray[i]! = r[i]:=by simp [hi]
  have ej:r.toArray[j]! = r[j]:=by simp [hj]
  rw [ei,ej] at h
  simpa only [ltOf,decide_eq_false_iff_not] using h
set_option maxHeartbeats 4000000 in
theorem sortNilR (w:World):Calls Tryz.prog 91 #[.slice none 0 0,.func (.func 55) #[] #[]] w fun e w'=>e = .returned (.tuple #[])∧w'=w:=by
 have hi : ∀ V,Calls Tryz.prog 112 #[.slice none 0 0,.int .i64 0,.int .i64 0,.func (.func 55) #[] #[]] V fun e w'=>e = .returned (.tuple #[])∧w'=V:=by
  intro V
  go_enter Tryz.func112,Tryz.ntmps112
  go_wp2
  refine wp_loop_rounds 1 ?_
  rw [rounds_succ]
  go_wp2
  go_end0
  exact ⟨rfl,rfl⟩
 have hs : ∀ V,Calls Tryz.prog 106 #[.slice none 0 0,.int .i64 0,.func (.func 55) #[] #[]] V fun e w'=>e = .returned (.tuple #[])∧w'=V:=by
  intro V
  have HI:=aK hi
  clear hi
  go_enter Tryz.func106,Tryz.ntmps106
  go_wp2
  refine wp_loop_rounds 1 ?_
  rw [rounds_succ]
  go_wp2_with fail
  refine (HI.out _).mono ?_
  rintro e w1 ⟨rfl,rfl⟩
  go_wp2
  refine wp_loop_rounds 1 ?_
  rw [rounds_succ]
  go_wp2
  go_end0
  exact ⟨rfl,rfl⟩
 clear hi
 go_enter Tryz.func91,Tryz.ntmps91
 go_wp2_with fail
 refine (hs _).mono ?_
 rintro e w1 ⟨rfl,rfl⟩
 go_wp2
 go_end0
 exact ⟨rfl,rfl⟩
theorem api_LigRule_91.calls (P0_ : Nat → Prop) (u9000_ : Value) (l0 : List S45) (w0 w : World) (hB : Below w0.heap.size w0 w) (ho0 : Kd.R k45 45 w w0.heap.size P0_ u9000_ l0) (hl : l0.length < 1152921504606846976) :
  Calls Tryz.prog 91 #[u9000_,.func (.func 55) #[] #[]] w fun e w'=>e = .returned (.tuple #[])∧∃ r,r.Perm l0∧RiseR r∧Kd.R k45 45 w' w0.heap.size (fun k_=>(P0_ k_∨w.heap.size≤k_)) u9000_ r∧Below w0.heap.size w0 w'∧Kept w w' (fun k_=>P0_ k_):=by
 obtain ⟨h0,inner,ho,hr⟩:=ho0
 have hi:=cells_flat4R hr
 rcases ho.2 with ⟨rfl,hn⟩|⟨g,cap,cur,rfl,hbase,hh,hle,hcap,hsz,htk⟩
 ·have hl0:l0=[]:=List.length_eq_zero_iff.mp hn
  subst hl0
  refine (sortNilR w).mono ?_
  rintro e w' ⟨rfl,rfl⟩
  exact ⟨rfl,[],List.Perm.refl _,List.Pairwise.nil,Kd.R_nil _ _ _ _ _,hB,Kept.refl _ _⟩
 ·have hk2:k45.sz=4:=rfl
  rw [hk2] at hsz htk
  have hin:inner.length=l0.length*4:=hr.1
  have hH:Go.Sort.HoldsK enc4R 4 w g 0 l0.toArray:=by
   unfold Go.Sort.HoldsK
   rw [hi]
   exact holds_row hh (by rw [hin];exact htk)
  have hlt:=lt_of_block hh
  refine (Sym.sortStableR 4 Tryz.isAgg45 Tryz.sizeOf45 enc4R cmpR cmpR_swo 55 #[] g 0 cap l0.toArray w (enters_own Tryz.func55 (by kernel_rfl) rfl) (cmpR_lays _ _ _ _) ⟨fun _=>rfl,fun x v hv=>by simp [enc4R] at hv;rcases hv with rfl|rfl|rfl|rfl <;> rfl,hH,hlt⟩ (by simpa using hl)).mono ?_
  rintro e w' ⟨rfl,d,hP,hS,⟨n,os,rfl⟩⟩
  obtain ⟨r,rfl⟩ : ∃ r:List S45,d=r.toArray:=⟨d.toList,by simp⟩
  obtain ⟨hperm,hrise⟩:=sorted4R hP hS
  have hlen:r.length=l0.length:=hperm.length_eq
  unfold sortWorldK Go.Sort.putRowK
  have hF:(Go.Sort.flatK enc4R 4 r.toArray).size=l0.length*4:=by simp [hlen]
  have hg0:w.grownBy (Go.Sort.putRow id (Go.Sort.ahead w n) g 0 (Go.Sort.flatK enc4R 4 r.toArray)) (some g):=grownBy_row _
  have hgw : ∀ (V:World),V.grownBy (Go.Sort.grow V os) none:=fun V=>⟨rfl,rfl,rfl,by simp [Go.Sort.grow],fun k hk _=>by simp [Go.Sort.grow,Array.getElem?_append,hk]⟩
  have hg:w.grownBy (Go.Sort.grow (Go.Sort.putRow id (Go.Sort.ahead w n) g 0 (Go.Sort.flatK enc4R 4 r.toArray)) os) (some g):=by
   have h2:=hgw (Go.Sort.putRow id (Go.Sort.ahead w n) g 0 (Go.Sort.flatK enc4R 4 r.toArray))
   exact ⟨h2.os.trans hg0.os,h2.tape.trans hg0.tape,h2.output.trans hg0.output,Nat.le_trans hg0.size h2.size,fun k hk hne=>(h2.block k (Nat.lt_of_lt_of_le hk hg0.size) (by simp)).trans (hg0.block k hk hne)⟩
  have hok:P0_ g:=h0 g (by simp [Value.ownBlock])
  refine ⟨rfl,r,hperm,hrise,?_,?_,?_⟩
  ·refine ⟨fun k hk=>Or.inl (h0 k hk),(Go.Sort.flatK enc4R 4 r.toArray).toList,?_,reps_flat4R r⟩
   have hb2:(Go.Sort.grow (Go.Sort.putRow id (Go.Sort.ahead w n) g 0 (Go.Sort.flatK enc4R 4 r.toArray)) os).heap[g]?=some (.cells (Go.Sort.putCells id 0 (Go.Sort.flatK enc4R 4 r.toArray) cur) 45 (0,0)):=by
    have h2:=(hgw (Go.Sort.putRow id (Go.Sort.ahead w n) g 0 (Go.Sort.flatK enc4R 4 r.toArray))).block g (Nat.lt_of_lt_of_le hlt hg0.size) (by simp)
    rw [h2]
    exact heap_row _ hh
   refine ⟨by rw [hk2,Array.length_toList,hF,hlen],.inr ⟨g,cap,_,by rw [hlen],hbase,hb2,by omega,hcap,by rw [hk2];simp [Go.Sort.putCells,hsz],?_⟩⟩
   have:=take_row cur (Go.Sort.flatK enc4R 4 r.toArray) (by rw [hF,hsz];omega)
   rw [hk2,hlen]
   rw [hF] at this
   exact this
  ·exact hB.grown hg hB.size (fun k hk=>by injection hk with hk;omega)
  ·exact Kept.of_grown hg (Kept.refl w _) (fun k hk=>by injection hk with hk;subst hk;exact Or.inl hok)
theorem row_keptT {α:Type} {d:Kd α} {e t base:Nat} {ok:Nat→Prop} {v:Value} {xs:List α} {W W2:World} (h:d.R e W base ok v xs) (hk:Kept W W2 (fun k=>∃ cells,W.heap[k]?=some (.cells cells t (0,0)))) (h1 : ∀ q,q∈e::d.E→q≠t):d.R e W2 base ok v xs:=by
 refine Kd.R_mono (Kd.R_kept (Kd.R_bound h) hk (fun k hk2=>?_)) (fun _ h=>h.1)
 rintro ⟨cells2,h2⟩
 obtain ⟨_,_,_,q,hq,cells,hc⟩:=hk2
 rw [hc] at h2
 injection h2 with h2
 injection h2 with _ h2
 exact h1 q hq h2
theorem blk_keptT {t t' g:Nat} {cs:Array Value} {W W2:World} (hb:W.heap[g]?=some (.cells cs t' (0,0))) (hk:Kept W W2 (fun k=>∃ cells,W.heap[k]?=some (.cells cells t (0,0)))) (hne:t'≠t):W2.heap[g]?=some (.cells cs t' (0,0)):=by
 refine blk_kept hb hk ?_
 rintro ⟨cells2,h2⟩
 rw [hb] at h2
 injection h2 with h2
 injection h2 with _ h2
 exact hne h2
theorem row_typed {α:Type} {d:Kd α} {e base:Nat} {ok:Nat→Prop} {v:Value} {xs:List α} {W:World} (h:d.R e W base ok v xs) (h1 : ∀ q,q∈e::d.E→q=e):d.R e W base (fun k=>∃ cells,W.heap[k]?=some (.cells cells e (0,0))) v xs:=by
 refine Kd.R_mono (Kd.R_bound h) (fun k hk=>?_)
 obtain ⟨_,_,_,q,hq,cells,hc⟩:=hk
 rw [h1 q hq] at hc
 exact ⟨cells,hc⟩
set_option maxHeartbeats 8000000 in
theorem made_calls (sz : Int) (A1 : Option Addr) (c1 : Nat) (cs : List S50) (A2 : Option Addr) (c2 : Nat) (rs : List S45) (w : World)
  (hr1:Kd.C k50 w A1 cs.length cs) (hc1:cs.length≤c1) (hr2:Kd.C k45 w A2 rs.length rs) (hc2:rs.length≤c2) (hl1:cs.length≤1000000) (hl2:rs.length≤1000000) :
  Calls Tryz.prog 50 #[.int .i64 sz,.slice A1 cs.length c1,.slice A2 rs.length c2] w fun e w'=>∃ v1 v2 cs' rs',e = .returned (.agg #[.int .i64 sz,v1,v2])∧(cs'.Perm cs∧RiseC cs')∧(rs'.Perm rs∧RiseR rs')∧Kd.R k50 50 w' w.heap.size (fun _=>True) v1 cs'∧Kd.R k45 45 w' w.heap.size (fun _=>True) v2 rs'∧Below w.heap.size w w':=by
 have hu:=Tryz.underlying25
 have HR1:=aK hr1
 have HR2:=aK hr2
 have HC1:=aK hc1
 have HC2:=aK hc2
 have HL1:=aK hl1
 have HL2:=aK hl2
 have B0:=aK (below_alloc (Below.refl w.heap.size w) (.cells #[.int .i64 0,.slice none 0 0,.slice none 0 0] 25))
 have Q0:=aK (blk_new w (.cells #[.int .i64 0,.slice none 0 0,.slice none 0 0] 25))
 clear hr1 hr2 hc1 hc2 hl1 hl2
 go_enter Tryz.func50,Tryz.ntmps50
 go_wp2_with fail
 refine (api_CharMetric_62.calls A1 c1 cs cs _ (Kd.C_below HR1.out B0.out) HC1.out (by unfold api_CharMetric_62.f;rw [if_pos (by have:=HL1.out;omega)])).mono ?_
 rintro e W1 ⟨v1,rfl,ho1,hb1⟩
 obtain ⟨A3,c3,rfl⟩:=Kd.R_slice ho1
 have O1:=aK (Kd.R_lower ho1 B0.out.size)
 have B1:=aK (below_step B0.out hb1)
 have Q1:=aK (blk_below Q0.out hb1)
 clear ho1 hb1 B0 Q0
 go_wp2_with fail
 refine (api_LigRule_63.calls A2 c2 rs rs W1 (Kd.C_below HR2.out B1.out) HC2.out (by unfold api_LigRule_63.f;rw [if_pos (by have:=HL2.out;omega)])).mono ?_
 rintro e W2 ⟨v2,rfl,ho2,hb2⟩
 obtain ⟨A4,c4,rfl⟩:=Kd.R_slice ho2
 have O3:=aK (Kd.R_alloc (Kd.R_below O1.out hb2) (.cells #[.int .i64 sz,.slice A3 cs.length c3,.slice A4 rs.length c4] 25))
 have O4:=aK (Kd.R_alloc (Kd.R_lower ho2 B1.out.size) (.cells #[.int .i64 sz,.slice A3 cs.length c3,.slice A4 rs.length c4] 25))
 have B3:=aK (below_alloc (below_step B1.out hb2) (.cells #[.int .i64 sz,.slice A3 cs.length c3,.slice A4 rs.length c4] 25))
 have Q3:=aK (blk_alloc (blk_below Q1.out hb2) (.cells #[.int .i64 sz,.slice A3 cs.length c3,.slice A4 rs.length c4] 25))
 have X3:=aK (blk_new W2 (.cells #[.int .i64 sz,.slice A3 cs.length c3,.slice A4 rs.length c4] 25))
 have HNE:Aside0 (w.heap.size≠W2.heap.size):=⟨Nat.ne_of_lt (Nat.lt_of_lt_of_le (blk_lt Q1.out) hb2.size)⟩
 clear ho2 hb2 B1 Q1 O1
 go_upto_region 2 with (fail)
 obtain ⟨b7,hb7⟩ : ∃ b7,b7=W2.heap.size:=⟨_,rfl⟩
 rw [← hb7] at X3 HNE ⊢
 generalize W2.alloc (.cells #[.int .i64 sz,.slice A3 cs.length c3,.slice A4 rs.length c4] 25)=W3 at *
 clear hb7
 have p1:=(blk_cell X3.out 1).trans rfl
 go_wp2_with fail
 refine (api_CharMetric_90.calls _ _ cs w W3 B3.out (row_typed O3.out opq50) (by have:=HL1.out;omega)).mono ?_
 clear p1
 rintro e W4 ⟨rfl,cs',hp,hrise,ho4,hb4,hk4⟩
 have hlen:cs'.length=cs.length:=hp.length_eq
 rw [← hlen] at ho4
 have O5:=aK (Kd.R_mono ho4 (fun _ _=>trivial):Kd.R k50 50 W4 w.heap.size (fun _=>True) (.slice A3 cs'.length c3) cs')
 have O6:=aK (row_keptT O4.out hk4 (fun q hq=>by rw [opq45 q hq];decide))
 have X4:=aK (blk_keptT X3.out hk4 (by decide))
 have Q4:=aK (blk_keptT Q3.out hk4 (by decide))
 have B4:=aK hb4
 have HPC:=aK (And.intro hp hrise)
 have X4:=X4.out
 rw [← hlen] at X4
 have X5:=aK X4
 clear ho4 hb4 hk4 hp hrise hlen X3 Q3 B3 O3 O4 X4
 have p1:=(blk_cell X5.out 2).trans rfl
 go_wp2_with fail
 refine (api_LigRule_91.calls _ _ rs w W4 B4.out (row_typed O6.out opq45) (by have:=HL2.out;omega)).mono ?_
 clear p1
 rintro e W6 ⟨rfl,rs',hp,hrise,ho6,hb6,hk6⟩
 have hlen:rs'.length=rs.length:=hp.length_eq
 rw [← hlen] at ho6
 have O8:=aK (Kd.R_mono ho6 (fun _ _=>trivial):Kd.R k45 45 W6 w.heap.size (fun _=>True) (.slice A4 rs'.length c4) rs')
 have O7:=aK (row_keptT O5.out hk6 (fun q hq=>by rw [opq50 q hq];decide))
 have X6:=blk_keptT X5.out hk6 (by decide)
 have Q6:=aK (blk_keptT Q4.out hk6 (by decide))
 have B6:=aK hb6
 have HPR:=aK (And.intro hp hrise)
 rw [← hlen] at X6
 have g0:=(blk_cell X6 0).trans rfl
 have g1:=(blk_cell X6 1).trans rfl
 have g2:=(blk_cell X6 2).trans rfl
 have q0:=blk_frozen Q6.out 0
 have q1:=blk_frozen Q6.out 1
 have q2:=blk_frozen Q6.out 2
 have q3:=(blk_cell Q6.out 0).trans rfl
 have q4:=(blk_cell Q6.out 1).trans rfl
 have q5:=(blk_cell Q6.out 2).trans rfl
 clear ho6 hb6 hk6 hp hrise hlen X5 Q4 B4 O5 O6 X6
 have Y1:=aK (blk_put Q6.out 0 (.int .i64 sz) rfl)
 have Y2:=aK (blk_put Y1.out 1 (.slice A3 cs'.length c3) rfl)
 have Y3:=aK (blk_put Y2.out 2 (.slice A4 rs'.length c4) rfl)
 go_wp2
 refine bodyPost_ret (results_cell_row rfl _ _ w.heap.size 25 #[.int .i64 sz,.slice A3 cs'.length c3,.slice A4 rs'.length c4] (0,0) _ rfl Y3.out Tryz.underlying25 rfl (by kernel_rfl)) rfl ?_
 exact ⟨.slice A3 cs'.length c3, .slice A4 rs'.length c4, cs', rs', rfl, HPC.out, HPR.out,
  Kd.R_set (Kd.R_set (Kd.R_set O7.out Q6.out (fun q hq=>by rw [opq50 q hq];decide) 0 _) Y1.out (fun q hq=>by rw [opq50 q hq];decide) 1 _) Y2.out (fun q hq=>by rw [opq50 q hq];decide) 2 _,
  Kd.R_set (Kd.R_set (Kd.R_set O8.out Q6.out (fun q hq=>by rw [opq45 q hq];decide) 0 _) Y1.out (fun q hq=>by rw [opq45 q hq];decide) 1 _) Y2.out (fun q hq=>by rw [opq45 q hq];decide) 2 _,
  below_set (below_set (below_set B6.out (Nat.le_refl _)) (Nat.le_refl _)) (Nat.le_refl _)⟩
end Go.Proofs.YtoemkemmiikhlaaGreat.PF4
