import Derived.Test.YtoemkemmiikhlaaGreatPF4x0
import Derived.Test.YtoemkemmiikhlaaGreatPF4x3
import Derived.Test.YtoemkemmiikhlaaGreatPF4x18
set_option maxRecDepth 100000
namespace Go.Proofs.YtoemkemmiikhlaaGreat.PF4
open Go.RowKit Go.Proofs.YtoemkemmiikhlaaGreatW.PrintWords Go.Proofs.YtoemkemmiikhlaaGreatW.PrintLast Go.Proofs.YtoemkemmiikhlaaGreatW.PrintMore
attribute [local go_sem] max2_int min2_int max_two min_two max_three min_three max_four min_four
set_option linter.unusedVariables false
set_option linter.unusedSimpArgs false
def findL (cs:List S50) (n:Int):Int×Int×Int×Int×Int:=(cs.find? fun c=>c.f0 == n).elim (0,0,0,0,4) fun c=>(c.f0,c.f1,c.f2,c.f3,0)
theorem findL_at {cs:List S50} {i:Nat} {n:Int} (h:i<cs.length):findL (cs.drop i) n=if cs[i].f0=n then (cs[i].f0,cs[i].f1,cs[i].f2,cs[i].f3,0) else findL (cs.drop (i+1)) n:=by
 rw [List.drop_eq_getElem_cons h,findL,List.find?_cons]
 by_cases h1:cs[i].f0=n
 ·rw [if_pos h1,beq_iff_eq.mpr h1];rfl
 ·rw [if_neg h1,beq_eq_false_iff_ne.mpr h1];rfl
def fleuronref27_Find.f (k:Nat) (a:Int) (cs:List S50) (rs:List S45) (n:Int):Option (Int×Int×Int×Int×Int):=if cs.length≤1000000∧rs.length≤1000000 then some (if validM a cs rs then findL cs n else (0,0,0,0,2)) else none
set_option maxHeartbeats 8000000 in
theorem fleuronref27_Find.calls (k : Nat) (a : Int) (A1 : Option Addr) (c1 : Nat) (cs : List S50) (A2 : Option Addr) (c2 : Nat) (rs : List S45) (n : Int) (r1 r2 r3 r4 r5 : Int) (w : World) (hr1 : Kd.C k50 w A1 cs.length cs) (hc1 : cs.length ≤ c1) (hr2 : Kd.C k45 w A2 rs.length rs) (hc2 : rs.length ≤ c2) (h : fleuronref27_Find.f k a cs rs n = some (r1, r2, r3, r4, r5)) :
  Calls Tryz.prog 21 #[.agg #[.int .i64 a,.slice A1 cs.length c1,.slice A2 rs.length c2],.int .i64 n] w fun e w'=>e = .returned (.tuple #[.agg #[.int .i64 r1,.int .i64 r2,.int .i64 r3,.int .i64 r4],.int .i64 r5])∧Below w.heap.size w w':=by
 have hu:=Tryz.underlying25
 have hu50:=Tryz.underlying50
 obtain ⟨⟨hl,hl2⟩,hq⟩:(cs.length≤1000000∧rs.length≤1000000)∧(if validM a cs rs then findL cs n else (0,0,0,0,2))=(r1,r2,r3,r4,r5):=by
  unfold fleuronref27_Find.f at h
  by_cases h1:cs.length≤1000000∧rs.length≤1000000
  ·rw [if_pos h1] at h;exact ⟨h1,Option.some.inj h⟩
  ·rw [if_neg h1] at h;cases h
 have HL:=aK hl
 have HR:=aK hr1
 have hc:=fun V (h1:Below w.heap.size w V)=>fleuronref27_Valid.calls 1 a A1 c1 cs A2 c2 rs (validM a cs rs) V (Kd.C_below hr1 h1) hc1 (Kd.C_below hr2 h1) hc2 (by unfold fleuronref27_Valid.f;rw [if_pos ⟨hl,hl2⟩])
 obtain ⟨b2,hb2⟩ : ∃ b,b=w.heap.size:=⟨_,rfl⟩
 obtain ⟨b4,hb4⟩ : ∃ b,b=w.heap.size+1:=⟨_,rfl⟩
 have hx:=blk_new (w.alloc (.cells #[.int .i64 a,.slice A1 cs.length c1,.slice A2 rs.length c2] 25)) (.cells #[.int .i64 0,.int .i64 0,.int .i64 0,.int .i64 0] 50)
 simp only [World.size_alloc] at hx
 rw [← hb4] at hx
 have HX:=aK hx
 have hm:=blk_alloc (blk_new w (.cells #[.int .i64 a,.slice A1 cs.length c1,.slice A2 rs.length c2] 25)) (.cells #[.int .i64 0,.int .i64 0,.int .i64 0,.int .i64 0] 50)
 rw [← hb2] at hm
 have HM:=aK hm
 have HB:=aK (below_alloc (below_alloc (Below.refl w.heap.size w) (.cells #[.int .i64 a,.slice A1 cs.length c1,.slice A2 rs.length c2] 25)) (.cells #[.int .i64 0,.int .i64 0,.int .i64 0,.int .i64 0] 50))
 have HLE:Aside0 (w.heap.size≤b4):=⟨by omega⟩
 have HBE:=aK (And.intro hb2 hb4)
 have HQ:=aK hq
 clear h hl hl2 hr1 hr2 hc1 hc2 hb2 hb4 hx hm hq
 go_enter Tryz.func21,Tryz.ntmps21
 go_upto_region 1 with (fail)
 rw [← HBE.out.2,← HBE.out.1]
 generalize (w.alloc (.cells #[.int .i64 a,.slice A1 cs.length c1,.slice A2 rs.length c2] 25)).alloc (.cells #[.int .i64 0,.int .i64 0,.int .i64 0,.int .i64 0] 50)=V at *
 have p0:=(blk_cell HM.out 0).trans rfl
 have p1:=(blk_cell HM.out 1).trans rfl
 have p2:=(blk_cell HM.out 2).trans rfl
 replace hc:=hc V HB.out
 cases hv:validM a cs rs with
 | false =>
  rw [hv] at hc HQ
  clear hv
  go_wp2_with fail
  refine hc.mono ?_
  clear hc p0 p1 p2
  rintro e W1 ⟨rfl,hb⟩
  have HB1:=aK (below_step HB.out hb)
  have HX1:=aK (blk_below HX.out hb)
  have HQ1:Aside0 ((0,0,0,0,2)=(r1,r2,r3,r4,r5)):=⟨HQ.out⟩
  clear hb HB HX HM HQ
  have q0:=blk_frozen HX1.out 0
  have q4:=(blk_cell HX1.out 0).trans rfl
  have q1:=blk_frozen HX1.out 1
  have q5:=(blk_cell HX1.out 1).trans rfl
  have q2:=blk_frozen HX1.out 2
  have q6:=(blk_cell HX1.out 2).trans rfl
  have q3:=blk_frozen HX1.out 3
  have q7:=(blk_cell HX1.out 3).trans rfl
  have X4:=aK (blk_put (blk_put (blk_put (blk_put HX1.out 0 (.int .i64 0) rfl) 1 (.int .i64 0) rfl) 2 (.int .i64 0) rfl) 3 (.int .i64 0) rfl)
  go_wp2
  obtain ⟨rfl,rfl,rfl,rfl,rfl⟩:0=r1∧0=r2∧0=r3∧0=r4∧2=r5:=by simpa using HQ1.out
  refine bodyPost_ret (results_ct rfl _ _ b4 50 #[.int .i64 0,.int .i64 0,.int .i64 0,.int .i64 0] (0,0) _ rfl X4.out Tryz.underlying50 rfl (by kernel_rfl)) rfl ?_
  exact ⟨rfl,below_set (below_set (below_set (below_set HB1.out HLE.out) HLE.out) HLE.out) HLE.out⟩
 | true =>
 rw [hv] at hc HQ
 clear hv
 go_wp2_with fail
 refine hc.mono ?_
 clear hc p0 p1 p2
 rintro e W1 ⟨rfl,hb⟩
 have HB1:=aK (below_step HB.out hb)
 have HX1:=aK (blk_below HX.out hb)
 have HM1:=aK (blk_below HM.out hb)
 have HQ1:Aside0 (findL (cs.drop 0) n=(r1,r2,r3,r4,r5)):=⟨HQ.out⟩
 clear hb HB HX HM HQ HBE
 have p1:=(blk_cell HM1.out 1).trans rfl
 go_wp2
 clear p1 HM1
 go_loopg [15] cs.length (fun gg s wr=>∃ i:Nat,i≤cs.length∧cs.length-i≤gg∧s = .int .i64 i∧Aside0 (findL (cs.drop i) n=(r1,r2,r3,r4,r5))∧Aside0 (Below w.heap.size w wr)∧Aside0 (wr.heap[b4]?=some (.cells #[.int .i64 0,.int .i64 0,.int .i64 0,.int .i64 0] 50 (0,0))))
 case atStart=>exact ⟨0,by omega,by omega,rfl,HQ1,HB1,HX1⟩
 case round =>
  clear HQ1 HB1 HX1
  obtain ⟨i,hi,hg,rfl,HQ,HB,HX⟩:=hrel
  by_cases hlt:i<cs.length
  ·have hlti:(i:Int)<(cs.length:Int):=by omega
   have hi0:(0:Int)≤(i:Int):=by omega
   obtain ⟨ad,e1,x0,x1,x2,x3⟩:=at_T50 HR.out (i:Int) (by omega) (by omega)
   simp only [Int.toNat_natCast] at x0 x1 x2 x3
   replace x0:=(HB.out.cell (World.block_lt_of_cell? w _ x0)).trans x0
   replace x1:=(HB.out.cell (World.block_lt_of_cell? w _ x1)).trans x1
   replace x2:=(HB.out.cell (World.block_lt_of_cell? w _ x2)).trans x2
   replace x3:=(HB.out.cell (World.block_lt_of_cell? w _ x3)).trans x3
   have hrd:rd_T50 cs (i:Int)=cs[i]:=by simp [rd_T50,List.getD_eq_getElem?_getD,hlt]
   have HSTEP:=aK (show wrap64 ((i:Int)+1)=((i+1:Nat):Int) by have:=HL.out;unfold wrap64;omega)
   have HQ2:=aK ((findL_at hlt).symm.trans HQ.out)
   rw [← hrd] at HQ2
   generalize rd_T50 cs (i:Int)=x at *
   subst e1
   have HB1:=aK (below_alloc HB.out (.cells #[.int .i64 x.f0,.int .i64 x.f1,.int .i64 x.f2,.int .i64 x.f3] 50))
   have HX1:=aK (blk_alloc HX.out (.cells #[.int .i64 x.f0,.int .i64 x.f1,.int .i64 x.f2,.int .i64 x.f3] 50))
   have Y1:=aK (blk_new wr (.cells #[.int .i64 x.f0,.int .i64 x.f1,.int .i64 x.f2,.int .i64 x.f3] 50))
   clear hrd HQ HB HX
   go_upto_region 6 with (fail)
   generalize wr.heap.size=b7 at *
   generalize wr.alloc (.cells #[.int .i64 x.f0,.int .i64 x.f1,.int .i64 x.f2,.int .i64 x.f3] 50)=V6 at *
   clear x0 x1 x2 x3
   have y0:=(blk_cell Y1.out 0).trans rfl
   by_cases he:x.f0=n
   ·have heb:(x.f0 == n)=true:=by simpa using he
    have HQ1:Aside0 ((x.f0,x.f1,x.f2,x.f3,0)=(r1,r2,r3,r4,r5)):=⟨by rw [← HQ2.out,if_pos he]⟩
    have y1:=(blk_cell Y1.out 1).trans rfl
    have y2:=(blk_cell Y1.out 2).trans rfl
    have y3:=(blk_cell Y1.out 3).trans rfl
    clear HQ2 he
    have q0:=blk_frozen HX1.out 0
    have q4:=(blk_cell HX1.out 0).trans rfl
    have q1:=blk_frozen HX1.out 1
    have q5:=(blk_cell HX1.out 1).trans rfl
    have q2:=blk_frozen HX1.out 2
    have q6:=(blk_cell HX1.out 2).trans rfl
    have q3:=blk_frozen HX1.out 3
    have q7:=(blk_cell HX1.out 3).trans rfl
    have X4:=aK (blk_put (blk_put (blk_put (blk_put HX1.out 0 (.int .i64 x.f0) rfl) 1 (.int .i64 x.f1) rfl) 2 (.int .i64 x.f2) rfl) 3 (.int .i64 x.f3) rfl)
    go_wp2
    obtain ⟨rfl,rfl,rfl,rfl,rfl⟩:x.f0=r1∧x.f1=r2∧x.f2=r3∧x.f3=r4∧0=r5:=by simpa using HQ1.out
    refine bodyPost_ret (results_ct rfl _ _ b4 50 #[.int .i64 x.f0,.int .i64 x.f1,.int .i64 x.f2,.int .i64 x.f3] (0,0) _ rfl X4.out Tryz.underlying50 rfl (by kernel_rfl)) rfl ?_
    exact ⟨rfl,below_set (below_set (below_set (below_set HB1.out HLE.out) HLE.out) HLE.out) HLE.out⟩
   ·have heb:(x.f0 == n)=false:=by simpa using he
    have HQ1:Aside0 (findL (cs.drop (i+1)) n=(r1,r2,r3,r4,r5)):=⟨by rw [← HQ2.out,if_neg he]⟩
    clear HQ2 he
    go_wp2
    go_roundg (cs.length-(i+1))
    case measure=>omega
    case rel=>exact ⟨i+1,by omega,by omega,by first|exact congrArg (Value.int .i64) HSTEP.out|go_num,HQ1,HB1,HX1⟩
  ·have hlti : ¬ (i:Int)<(cs.length:Int):=by omega
   obtain rfl:i=cs.length:=by omega
   have HQ1:Aside0 ((0,0,0,0,4)=(r1,r2,r3,r4,r5)):=⟨by rw [← HQ.out,List.drop_length];rfl⟩
   have HB1:=HB
   have HX1:=HX
   clear HQ HB HX
   have q0:=blk_frozen HX1.out 0
   have q4:=(blk_cell HX1.out 0).trans rfl
   have q1:=blk_frozen HX1.out 1
   have q5:=(blk_cell HX1.out 1).trans rfl
   have q2:=blk_frozen HX1.out 2
   have q6:=(blk_cell HX1.out 2).trans rfl
   have q3:=blk_frozen HX1.out 3
   have q7:=(blk_cell HX1.out 3).trans rfl
   have X4:=aK (blk_put (blk_put (blk_put (blk_put HX1.out 0 (.int .i64 0) rfl) 1 (.int .i64 0) rfl) 2 (.int .i64 0) rfl) 3 (.int .i64 0) rfl)
   go_wp2
   obtain ⟨rfl,rfl,rfl,rfl,rfl⟩:0=r1∧0=r2∧0=r3∧0=r4∧4=r5:=by simpa using HQ1.out
   refine bodyPost_ret (results_ct rfl _ _ b4 50 #[.int .i64 0,.int .i64 0,.int .i64 0,.int .i64 0] (0,0) _ rfl X4.out Tryz.underlying50 rfl (by kernel_rfl)) rfl ?_
   exact ⟨rfl,below_set (below_set (below_set (below_set HB1.out HLE.out) HLE.out) HLE.out) HLE.out⟩
def forL (rs:List S45) (a b:Int):Int×Int×Int×Int×Bool:=(rs.find? fun c=>c.f0 == a && c.f1 == b).elim (0,0,0,0,false) fun c=>(c.f0,c.f1,c.f2,c.f3,true)
theorem forL_at {rs:List S45} {i:Nat} {a b:Int} (h:i<rs.length):forL (rs.drop i) a b=if rs[i].f0=a∧rs[i].f1=b then (rs[i].f0,rs[i].f1,rs[i].f2,rs[i].f3,true) else forL (rs.drop (i+1)) a b:=by
 rw [List.drop_eq_getElem_cons h,forL,List.find?_cons]
 by_cases h1:rs[i].f0=a∧rs[i].f1=b
 ·rw [if_pos h1,beq_iff_eq.mpr h1.1,beq_iff_eq.mpr h1.2];rfl
 ·rw [if_neg h1,show (rs[i].f0 == a && rs[i].f1 == b)=false from by simpa using h1];rfl
def fleuronref27_For.f (k:Nat) (rs:List S45) (a b:Int):Option (Int×Int×Int×Int×Bool):=if rs.length≤1000000 then some (forL rs a b) else none
set_option maxHeartbeats 8000000 in
theorem fleuronref27_For.calls (k : Nat) (A1 : Option Addr) (c1 : Nat) (rs : List S45) (a b : Int) (r1 r2 r3 r4 : Int) (r5 : Bool) (w : World) (hr1 : Kd.C k45 w A1 rs.length rs) (hc1 : rs.length ≤ c1) (h : fleuronref27_For.f k rs a b = some (r1, r2, r3, r4, r5)) :
  Calls Tryz.prog 60 #[.slice A1 rs.length c1,.int .i64 a,.int .i64 b] w fun e w'=>e = .returned (.tuple #[.agg #[.int .i64 r1,.int .i64 r2,.int .i64 r3,.int .i64 r4],.bool r5])∧Below w.heap.size w w':=by
 have hu45:=Tryz.underlying45
 obtain ⟨hl,hq⟩:rs.length≤1000000∧forL (rs.drop 0) a b=(r1,r2,r3,r4,r5):=by
  unfold fleuronref27_For.f at h
  by_cases h1:rs.length≤1000000
  ·rw [if_pos h1] at h;exact ⟨h1,Option.some.inj h⟩
  ·rw [if_neg h1] at h;cases h
 have HL:=aK hl
 have HR:=aK hr1
 obtain ⟨b6,hb6⟩ : ∃ b,b=w.heap.size:=⟨_,rfl⟩
 have hx:=blk_new w (.cells #[.int .i64 0,.int .i64 0,.int .i64 0,.int .i64 0] 45)
 rw [← hb6] at hx
 have HX1:=aK hx
 have HB1:=aK (below_alloc (Below.refl w.heap.size w) (.cells #[.int .i64 0,.int .i64 0,.int .i64 0,.int .i64 0] 45))
 have HLE:Aside0 (w.heap.size≤b6):=⟨by omega⟩
 have HBE:=aK hb6
 have HQ1:=aK hq
 clear h hl hr1 hc1 hb6 hx hq
 go_enter Tryz.func60,Tryz.ntmps60
 go_upto_region 1 with (fail)
 rw [← HBE.out]
 generalize w.alloc (.cells #[.int .i64 0,.int .i64 0,.int .i64 0,.int .i64 0] 45)=V at *
 go_wp2
 clear HBE
 go_loopg [12] rs.length (fun gg s wr=>∃ i:Nat,i≤rs.length∧rs.length-i≤gg∧s = .int .i64 i∧Aside0 (forL (rs.drop i) a b=(r1,r2,r3,r4,r5))∧Aside0 (Below w.heap.size w wr)∧Aside0 (wr.heap[b6]?=some (.cells #[.int .i64 0,.int .i64 0,.int .i64 0,.int .i64 0] 45 (0,0))))
 case atStart=>exact ⟨0,by omega,by omega,rfl,HQ1,HB1,HX1⟩
 case round =>
  clear HQ1 HB1 HX1
  obtain ⟨i,hi,hg,rfl,HQ,HB,HX⟩:=hrel
  by_cases hlt:i<rs.length
  ·have hlti:(i:Int)<(rs.length:Int):=by omega
   have hi0:(0:Int)≤(i:Int):=by omega
   obtain ⟨ad,e1,x0,x1,x2,x3⟩:=at_T45 HR.out (i:Int) (by omega) (by omega)
   simp only [Int.toNat_natCast] at x0 x1 x2 x3
   replace x0:=(HB.out.cell (World.block_lt_of_cell? w _ x0)).trans x0
   replace x1:=(HB.out.cell (World.block_lt_of_cell? w _ x1)).trans x1
   replace x2:=(HB.out.cell (World.block_lt_of_cell? w _ x2)).trans x2
   replace x3:=(HB.out.cell (World.block_lt_of_cell? w _ x3)).trans x3
   have hrd:rd_T45 rs (i:Int)=rs[i]:=by simp [rd_T45,List.getD_eq_getElem?_getD,hlt]
   have HSTEP:=aK (show wrap64 ((i:Int)+1)=((i+1:Nat):Int) by have:=HL.out;unfold wrap64;omega)
   have HQ2:=aK ((forL_at hlt).symm.trans HQ.out)
   rw [← hrd] at HQ2
   generalize rd_T45 rs (i:Int)=x at *
   subst e1
   have HB1:=aK (below_alloc HB.out (.cells #[.int .i64 x.f0,.int .i64 x.f1,.int .i64 x.f2,.int .i64 x.f3] 45))
   have HX1:=aK (blk_alloc HX.out (.cells #[.int .i64 x.f0,.int .i64 x.f1,.int .i64 x.f2,.int .i64 x.f3] 45))
   have Y1:=aK (blk_new wr (.cells #[.int .i64 x.f0,.int .i64 x.f1,.int .i64 x.f2,.int .i64 x.f3] 45))
   clear hrd HQ HB HX
   go_upto_region 4 with (fail)
   generalize wr.heap.size=b7 at *
   generalize wr.alloc (.cells #[.int .i64 x.f0,.int .i64 x.f1,.int .i64 x.f2,.int .i64 x.f3] 45)=V6 at *
   clear x0 x1 x2 x3
   have y0:=(blk_cell Y1.out 0).trans rfl
   have y1:=(blk_cell Y1.out 1).trans rfl
   have hw:(x.f0=a∧x.f1=b)∨(¬ (x.f0=a∧x.f1=b)∧(x.f0 == a)=true∧(x.f1 == b)=false)∨(¬ (x.f0=a∧x.f1=b)∧(x.f0 == a)=false):=by
    by_cases h1:x.f0=a
    ·by_cases h2:x.f1=b
     ·exact .inl ⟨h1,h2⟩
     ·exact .inr (.inl ⟨fun h=>h2 h.2,by simpa using h1,by simpa using h2⟩)
    ·exact .inr (.inr ⟨fun h=>h1 h.1,by simpa using h1⟩)
   rcases hw with he|⟨he,g1,g2⟩|⟨he,g1⟩
   ·have heb:(x.f0 == a)=true:=by simpa using he.1
    have heb2:(x.f1 == b)=true:=by simpa using he.2
    have HQ1:Aside0 ((x.f0,x.f1,x.f2,x.f3,true)=(r1,r2,r3,r4,r5)):=⟨by rw [← HQ2.out,if_pos he]⟩
    have y2:=(blk_cell Y1.out 2).trans rfl
    have y3:=(blk_cell Y1.out 3).trans rfl
    clear HQ2 he
    have q0:=blk_frozen HX1.out 0
    have q4:=(blk_cell HX1.out 0).trans rfl
    have q1:=blk_frozen HX1.out 1
    have q5:=(blk_cell HX1.out 1).trans rfl
    have q2:=blk_frozen HX1.out 2
    have q6:=(blk_cell HX1.out 2).trans rfl
    have q3:=blk_frozen HX1.out 3
    have q7:=(blk_cell HX1.out 3).trans rfl
    have X4:=aK (blk_put (blk_put (blk_put (blk_put HX1.out 0 (.int .i64 x.f0) rfl) 1 (.int .i64 x.f1) rfl) 2 (.int .i64 x.f2) rfl) 3 (.int .i64 x.f3) rfl)
    go_wp2
    obtain ⟨rfl,rfl,rfl,rfl,rfl⟩:x.f0=r1∧x.f1=r2∧x.f2=r3∧x.f3=r4∧true=r5:=by simpa using HQ1.out
    refine bodyPost_ret (results_ct rfl _ _ b6 45 #[.int .i64 x.f0,.int .i64 x.f1,.int .i64 x.f2,.int .i64 x.f3] (0,0) _ rfl X4.out Tryz.underlying45 rfl (by kernel_rfl)) rfl ?_
    exact ⟨rfl,below_set (below_set (below_set (below_set HB1.out HLE.out) HLE.out) HLE.out) HLE.out⟩
   all_goals
    have HQ1:Aside0 (forL (rs.drop (i+1)) a b=(r1,r2,r3,r4,r5)):=⟨by rw [← HQ2.out,if_neg he]⟩
    clear HQ2 he
    go_wp2
    go_roundg (rs.length-(i+1))
    case measure=>omega
    case rel=>exact ⟨i+1,by omega,by omega,by first|exact congrArg (Value.int .i64) HSTEP.out|go_num,HQ1,HB1,HX1⟩
  ·have hlti : ¬ (i:Int)<(rs.length:Int):=by omega
   obtain rfl:i=rs.length:=by omega
   have HQ1:Aside0 ((0,0,0,0,false)=(r1,r2,r3,r4,r5)):=⟨by rw [← HQ.out,List.drop_length];rfl⟩
   have HB1:=HB
   have HX1:=HX
   clear HQ HB HX
   have q0:=blk_frozen HX1.out 0
   have q4:=(blk_cell HX1.out 0).trans rfl
   have q1:=blk_frozen HX1.out 1
   have q5:=(blk_cell HX1.out 1).trans rfl
   have q2:=blk_frozen HX1.out 2
   have q6:=(blk_cell HX1.out 2).trans rfl
   have q3:=blk_frozen HX1.out 3
   have q7:=(blk_cell HX1.out 3).trans rfl
   have X4:=aK (blk_put (blk_put (blk_put (blk_put HX1.out 0 (.int .i64 0) rfl) 1 (.int .i64 0) rfl) 2 (.int .i64 0) rfl) 3 (.int .i64 0) rfl)
   go_wp2
   obtain ⟨rfl,rfl,rfl,rfl,rfl⟩:0=r1∧0=r2∧0=r3∧0=r4∧false=r5:=by simpa using HQ1.out
   refine bodyPost_ret (results_ct rfl _ _ b6 45 #[.int .i64 0,.int .i64 0,.int .i64 0,.int .i64 0] (0,0) _ rfl X4.out Tryz.underlying45 rfl (by kernel_rfl)) rfl ?_
   exact ⟨rfl,below_set (below_set (below_set (below_set HB1.out HLE.out) HLE.out) HLE.out) HLE.out⟩
end Go.Proofs.YtoemkemmiikhlaaGreat.PF4
