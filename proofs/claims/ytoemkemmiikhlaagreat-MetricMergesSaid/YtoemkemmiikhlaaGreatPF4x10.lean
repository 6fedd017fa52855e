import Derived.Test.YtoemkemmiikhlaaGreatPF4x0
import Derived.Test.YtoemkemmiikhlaaGreatPF4x1
import Derived.Test.YtoemkemmiikhlaaGreatPF4x2
import Derived.Test.YtoemkemmiikhlaaGreatPF4x3
import Derived.Test.YtoemkemmiikhlaaGreatPF4x7
import Derived.Test.YtoemkemmiikhlaaGreatPF4x8
import Derived.Test.YtoemkemmiikhlaaGreatPF4x9
namespace Go.Proofs.YtoemkemmiikhlaaGreat.PF4
open Go.RowKit Go.Proofs.YtoemkemmiikhlaaGreatW.PrintWords Go.Proofs.YtoemkemmiikhlaaGreatW.PrintLast Go.Proofs.YtoemkemmiikhlaaGreatW.PrintMore
attribute [local go_sem] max2_int min2_int max_two min_two max_three min_three max_four min_four
set_option linter.unusedVariables false
set_option linter.unusedSimpArgs false
structure GlyphV where
 f0:Int
 f1:Int
 f2:Int
 f3:Int
 pa:Option Addr
 pl:Nat
 pc:Nat
def GlyphV.cells (x:GlyphV):List Value:=[.int .i64 x.f0,.int .i64 x.f1,.int .i64 x.f2,.int .i64 x.f3,.slice x.pa x.pl x.pc]
theorem GlyphV.one (x:GlyphV) : ∀ u∈x.cells,u.oneCell'=true:=by
 intro u hu
 simp only [GlyphV.cells,List.mem_cons,List.not_mem_nil,or_false] at hu
 rcases hu with rfl|rfl|rfl|rfl|rfl <;> rfl
def kGl:Kd GlyphV where
 sz:=5
 E:=[]
 K:=fun _ x cs=>cs=x.cells
 M:=fun _ _ _ x cs=>cs=x.cells
 K_len:=fun h=>by rw [h];rfl
 K_one:=fun h=>by rw [h];exact GlyphV.one _
 K_below:=fun _ h=>h
 K_of_M:=fun h=>h
 M_mono:=fun _ h=>h
 M_bound:=fun h=>h
 M_move:=fun _ h=>h
 M_lower:=fun _ h=>h
def zGl:GlyphV:=⟨0,0,0,0,none,0,0⟩
theorem at_Gl {w:World} {A:Option Addr} {n:Nat} {xs:List GlyphV} (h:Kd.C kGl w A n xs) (i:Int) (h0:0≤i) (h1:i<n) : ∃ ad,A=some ad∧w.cell? (ad.add (i.toNat*5))=some (.int .i64 (xs.getD i.toNat zGl).f0)∧w.cell? ⟨(ad.add (i.toNat*5)).block,(ad.add (i.toNat*5)).off+1,none⟩=some (.int .i64 (xs.getD i.toNat zGl).f1)∧w.cell? ⟨(ad.add (i.toNat*5)).block,(ad.add (i.toNat*5)).off+2,none⟩=some (.int .i64 (xs.getD i.toNat zGl).f2)∧w.cell? ⟨(ad.add (i.toNat*5)).block,(ad.add (i.toNat*5)).off+3,none⟩=some (.int .i64 (xs.getD i.toNat zGl).f3)∧w.cell? ⟨(ad.add (i.toNat*5)).block,(ad.add (i.toNat*5)).off+4,none⟩=some (.slice (xs.getD i.toNat zGl).pa (xs.getD i.toNat zGl).pl (xs.getD i.toNat zGl).pc):=by
 obtain ⟨ad,c,e,_,hK,hc0⟩:=Kd.C_get h zGl i h0 h1
 have hc : ∀ j u,c[j]?=some u→w.cell? (ad.add (i.toNat*5+j))=some u:=hc0
 have hK2:c=(xs.getD i.toNat zGl).cells:=hK
 subst hK2
 exact ⟨ad,e,hc 0 _ rfl,by rw [← add_field _ _ 1 (by omega)];exact hc 1 _ rfl,by rw [← add_field _ _ 2 (by omega)];exact hc 2 _ rfl,by rw [← add_field _ _ 3 (by omega)];exact hc 3 _ rfl,by rw [← add_field _ _ 4 (by omega)];exact hc 4 _ rfl⟩
theorem twiceC_calls (A:Option Addr) (c:Nat) (l:List S50) (w:World) (hr:Kd.C k50 w A l.length l) (hl:l.length≤1000000000000):Calls Tryz.prog 53 #[.slice A l.length c,.func (.func 36) #[] #[]] w fun e w'=>e = .returned (.bool (!(chainB (fun x y=>!(cmpC x y == 0)) l)))∧Below w.heap.size w w' :=
 twice_prsC 36 cmpC (enters_own Tryz.func36 (by kernel_rfl) rfl) A c l w (fun W x y=>cmpC_calls W x y) hr hl
theorem twiceR_calls (A:Option Addr) (c:Nat) (l:List S45) (w:World) (hr:Kd.C k45 w A l.length l) (hl:l.length≤1000000000000):Calls Tryz.prog 54 #[.slice A l.length c,.func (.func 55) #[] #[]] w fun e w'=>e = .returned (.bool (!(chainB (fun x y=>!(cmpR x y == 0)) l)))∧Below w.heap.size w w' :=
 twice_prsR 55 cmpR (enters_own Tryz.func55 (by kernel_rfl) rfl) A c l w (fun W x y=>cmpR_calls W x y) hr hl
def glC (x:GlyphV):S50:=⟨x.f0,x.f1,x.f2,x.f3⟩
def ofE (sz:Int) (gs:List S50) (ls:List S45) (cs:List S50) (rs:List S45):Int×List S50×List S45×Int :=
 if sizeB sz && (gs.all okC && ls.all okR) then (if decide (gs.length≤256) && decide (ls.length≤500) then (if chainB (fun x y=>!(cmpC x y == 0)) cs && chainB (fun x y=>!(cmpR x y == 0)) rs then (sz,cs,rs,0) else (0,[],[],14)) else (0,[],[],3)) else (0,[],[],2)
theorem take_glC (gs:List GlyphV) (i:Nat) (h:i<gs.length):(gs.take i).map glC++[glC (gs.getD i zGl)]=(gs.take (i+1)).map glC:=by
 rw [List.take_add_one,List.getElem?_eq_getElem h,List.getD_eq_getElem?_getD,List.getElem?_eq_getElem h,Option.toList_some,List.map_append]
 rfl
set_option maxHeartbeats 8000000 in
set_option maxRecDepth 100000 in
theorem of_calls (sz : Int) (A1 : Option Addr) (c1 : Nat) (gs : List GlyphV) (A2 : Option Addr) (c2 : Nat) (ls : List S45) (w : World)
  (hr1:Kd.C kGl w A1 gs.length gs) (hr2:Kd.C k45 w A2 ls.length ls) (hc2:ls.length≤c2) (hl1:gs.length≤1000000) (hl2:ls.length≤1000000) :
  Calls Tryz.prog 18 #[.int .i64 sz,.slice A1 gs.length c1,.slice A2 ls.length c2] w fun e w'=>∃ cs rs v1 v2,e = .returned (.tuple #[.agg #[.int .i64 (ofE sz (gs.map glC) ls cs rs).1,v1,v2],.int .i64 (ofE sz (gs.map glC) ls cs rs).2.2.2])∧(cs.Perm (gs.map glC)∧RiseC cs)∧(rs.Perm ls∧RiseR rs)∧Kd.R k50 50 w' w.heap.size (fun _=>True) v1 (ofE sz (gs.map glC) ls cs rs).2.1∧Kd.R k45 45 w' w.heap.size (fun _=>True) v2 (ofE sz (gs.map glC) ls cs rs).2.2.1∧Below w.heap.size w w':=by
 have hu:=Tryz.underlying25
 have hu50:=Tryz.underlying50
 have hu42:=Tryz.underlying42
 have HR1:=aK hr1
 have HR2:=aK hr2
 have HC2:=aK hc2
 have HL1:=aK hl1
 have HL2:=aK hl2
 have HB0:=aK (below_alloc (Below.refl w.heap.size w) (.cells #[.int .i64 0,.slice none 0 0,.slice none 0 0] 25))
 have HQ0:=aK (blk_new w (.cells #[.int .i64 0,.slice none 0 0,.slice none 0 0] 25))
 obtain ⟨cs0,hcs0⟩ : ∃ l,l=gs.map glC:=⟨_,rfl⟩
 rw [← hcs0]
 have HCS:=aK hcs0
 clear hr1 hr2 hc2 hl1 hl2 hcs0
 go_enter Tryz.func18,Tryz.ntmps18
 go_upto_region 2 with (fail)
 generalize w.alloc (.cells #[.int .i64 0,.slice none 0 0,.slice none 0 0] 25)=V at *
 go_upto_block 0 with (fail)
 go_cut [8] (fun s8 wc=>Aside0 (Kd.R k50 50 wc w.heap.size (fun _=>True) s8 (gs.map glC))∧Aside0 (wc.heap[w.heap.size]?=some (.cells #[.int .i64 0,.slice none 0 0,.slice none 0 0] 25 (0,0)))∧Aside0 (Below w.heap.size w wc))
 case first =>
  go_wp2_with fail
  go_loopg [8,14] gs.length (fun gg s8 s14 wr=>∃ (i:Nat),i≤gs.length∧gs.length-i≤gg∧s14 = .int .i64 i∧Aside0 (Kd.R k50 50 wr w.heap.size (fun _=>True) s8 ((gs.take i).map glC))∧Aside0 (wr.heap[w.heap.size]?=some (.cells #[.int .i64 0,.slice none 0 0,.slice none 0 0] 25 (0,0)))∧Aside0 (Below w.heap.size w wr))
  case atStart=>exact ⟨0,by omega,by omega,rfl,⟨Kd.R_nil _ _ _ _ _⟩,HQ0,HB0⟩
  case round =>
   clear HQ0 HB0
   obtain ⟨i,hi,hg,rfl,HO,HQ,HB⟩:=hrel
   by_cases hlt:i<gs.length
   ·have hlti:(i:Int)<(gs.length:Int):=by omega
    have hi0:(0:Int)≤(i:Int):=by omega
    obtain ⟨ad,e1,hx0,hx1,hx2,hx3,hx4⟩:=at_Gl HR1.out (i:Int) hi0 hlti
    simp only [Int.toNat_natCast] at hx0 hx1 hx2 hx3 hx4
    replace hx0:=(HB.out.cell (World.block_lt_of_cell? w _ hx0)).trans hx0
    replace hx1:=(HB.out.cell (World.block_lt_of_cell? w _ hx1)).trans hx1
    replace hx2:=(HB.out.cell (World.block_lt_of_cell? w _ hx2)).trans hx2
    replace hx3:=(HB.out.cell (World.block_lt_of_cell? w _ hx3)).trans hx3
    replace hx4:=(HB.out.cell (World.block_lt_of_cell? w _ hx4)).trans hx4
    have HN:=aK (take_glC gs i hlt)
    generalize gs.getD i zGl=x at *
    obtain ⟨x0,x1,x2,x3,pa,pl,pc⟩:=x
    simp only [glC] at hx0 hx1 hx2 hx3 hx4
    have HXL:Aside0 (((gs.take i).map glC).length≤1000000):=⟨by simp;have:=HL1.out;omega⟩
    have hnx:(gs.take i).map glC++[(⟨x0,x1,x2,x3⟩:S50)]=(gs.take (i+1)).map glC:=HN.out
    have HNX:=aK hnx
    generalize (gs.take i).map glC=xs at *
    have HS:=aK (show w.heap.size≤wr.heap.size from HB.out.size)
    have HW:=aK (show wrap64 ((i:Int)+1)=((i+1:Nat):Int) by have:=HL1.out;unfold wrap64;omega)
    have HQ1:=aK (blk_alloc HQ.out (.cells #[.int .i64 x0,.int .i64 x1,.int .i64 x2,.int .i64 x3,.slice pa pl pc] 42))
    have HB1:=aK (below_alloc HB.out (.cells #[.int .i64 x0,.int .i64 x1,.int .i64 x2,.int .i64 x3,.slice pa pl pc] 42))
    have HO1:=aK (Kd.R_alloc HO.out (.cells #[.int .i64 x0,.int .i64 x1,.int .i64 x2,.int .i64 x3,.slice pa pl pc] 42))
    subst e1
    obtain ⟨A9,c9,rfl⟩:=Kd.R_slice HO.out
    clear HN hnx HO
    go_upto_region 5 with (fail)
    have HY1:=blk_new wr (.cells #[.int .i64 x0,.int .i64 x1,.int .i64 x2,.int .i64 x3,.slice pa pl pc] 42)
    generalize wr.heap.size=b9 at *
    generalize wr.alloc (.cells #[.int .i64 x0,.int .i64 x1,.int .i64 x2,.int .i64 x3,.slice pa pl pc] 42)=W1 at *
    have y0:=(blk_cell HY1 0).trans rfl
    have y1:=(blk_cell HY1 1).trans rfl
    have y2:=(blk_cell HY1 2).trans rfl
    have y3:=(blk_cell HY1 3).trans rfl
    clear hx0 hx1 hx2 hx3 hx4 HQ HB HY1
    go_wp2_with ((with_reducible refine gate_builtin (b:=.append) (xs:=#[.tmp 18,.tmp 28]) rfl ?_);at_builtin;refine Kd.R_append k50 (w0:=w) w.heap.size rfl (.tmp 18) (.tmp 28) 22 50 (.agg #[(.int .i64 0),(.int .i64 0),(.int .i64 0),(.int .i64 0)]) 32 rfl Tryz.underlying22 info50 rfl (by decide) (by omega) (.slice A9 xs.length c9) xs (⟨x0,x1,x2,x3⟩:S50) [.int .i64 x0,.int .i64 x1,.int .i64 x2,.int .i64 x3] (fun _=>True) (fun _=>False) rfl (by first|(go_simp;done)|(go_simp;rfl)) ?aP (fun _ hk=>hk.elim) ?aF ?aO ?aB ?aS ?aL ?_;(case aP=>exact k50_mkM _ _ _ (⟨x0,x1,x2,x3⟩:S50));(case aF=>exact (fun _ _=>trivial));(case aO=>first|exact HO1.out|exact Kd.R_alloc HO1.out _);(case aB=>first|exact HB1.out|exact below_alloc HB1.out _);(case aS=>first|exact HB1.out.size|exact (below_alloc HB1.out _).size);(case aL=>have:=HXL.out;omega);intro v3 w3 ho hb hg hat;rw [HNX.out] at ho;have HO3:=aK ho;have HB3:=aK hb;have HQ3:=aK (blk_grown (by first|exact HQ1.out|exact blk_alloc HQ1.out _) hg (Kd.R_ne (by first|exact HO1.out|exact Kd.R_alloc HO1.out _) (by first|exact HQ1.out|exact blk_alloc HQ1.out _) (by decide)));clear ho hb hg hat)
    go_roundg (gs.length-(i+1))
    case measure=>omega
    case rel=>exact ⟨i+1,by omega,by omega,congrArg (Value.int .i64) HW.out,HO3,HQ3,HB3⟩
   ·have hlti : ¬ (i:Int)<(gs.length:Int):=by omega
    obtain rfl:i=gs.length:=by omega
    go_wp2
    go_meet
    case rel=>exact ⟨⟨by simpa using HO.out⟩,HQ,HB⟩
 case rest =>
  obtain ⟨HO,HQ,HB⟩:=hcut
  clear HQ0 HB0
  have HGL:Aside0 (cs0.length≤1000000):=⟨by rw [HCS.out,List.length_map];exact HL1.out⟩
  rw [← HCS.out] at HO
  obtain ⟨A9,c9,rfl⟩:=Kd.R_slice HO.out
  have hrd:=Kd.R_reads' HO.out
  have hm:=made_calls sz A9 c9 cs0 A2 c2 ls wc hrd.2.2 hrd.2.1 (Kd.C_below HR2.out HB.out) HC2.out HGL.out HL2.out
  clear hrd
  go_wp2_with fail
  refine hm.mono ?_
  clear hm
  rintro e W1 ⟨v1,v2,cs,rs,rfl,hpc,hpr,hr1,hr2,hb1⟩
  obtain ⟨A3,c3,rfl⟩:=Kd.R_slice hr1
  obtain ⟨A4,c4,rfl⟩:=Kd.R_slice hr2
  have HPC:=aK hpc
  have HPR:=aK hpr
  have hlc:cs.length=cs0.length:=hpc.1.length_eq
  have hlr:rs.length=ls.length:=hpr.1.length_eq
  have HLC:Aside0 (cs.length≤1000000):=⟨by have:=HGL.out;omega⟩
  have HLR:Aside0 (rs.length≤1000000):=⟨by have:=HL2.out;omega⟩
  have HO1:=aK (Kd.R_below HO.out hb1)
  have HQ1:=aK (blk_below HQ.out hb1)
  have HN1:Aside0 (w.heap.size≠W1.heap.size):=⟨Nat.ne_of_lt (blk_lt HQ1.out)⟩
  have HB1:=aK (below_step HB.out hb1)
  have R1:=aK (Kd.R_lower hr1 HB.out.size)
  have R2:=aK (Kd.R_lower hr2 HB.out.size)
  clear hpc hpr hr1 hr2 hb1 HO HQ HB hlc hlr
  have HB2:=aK (below_alloc HB1.out (.cells #[.int .i64 sz,.slice A3 cs.length c3,.slice A4 rs.length c4] 25))
  have HQ2:=aK (blk_alloc HQ1.out (.cells #[.int .i64 sz,.slice A3 cs.length c3,.slice A4 rs.length c4] 25))
  have HX2:=aK (blk_new W1 (.cells #[.int .i64 sz,.slice A3 cs.length c3,.slice A4 rs.length c4] 25))
  have HO2:=aK (Kd.R_alloc HO1.out (.cells #[.int .i64 sz,.slice A3 cs.length c3,.slice A4 rs.length c4] 25))
  have S1:=aK (Kd.R_alloc R1.out (.cells #[.int .i64 sz,.slice A3 cs.length c3,.slice A4 rs.length c4] 25))
  have S2:=aK (Kd.R_alloc R2.out (.cells #[.int .i64 sz,.slice A3 cs.length c3,.slice A4 rs.length c4] 25))
  clear HB1 HQ1 HO1 R1 R2
  go_upto_block 2 with (fail)
  generalize W1.heap.size=b11 at *
  generalize W1.alloc (.cells #[.int .i64 sz,.slice A3 cs.length c3,.slice A4 rs.length c4] 25)=W2 at *
  have HSZ:=aK (fun V=>metric_IsSize.calls sz (sizeB sz) V (isSize_is sz))
  have HAC:=aK (fun V (h:Below W2.heap.size W2 V)=>allC_calls A9 c9 cs0 V (Kd.C_below (Kd.R_reads' HO2.out).2.2 h) (by have:=HGL.out;omega))
  have HAR:=aK (fun V (h:Below W2.heap.size W2 V)=>allR_calls A2 c2 ls V (Kd.C_below HR2.out (below_step HB2.out h)) (by have:=HL2.out;omega))
  have HTC:=aK (fun V (h:Below W2.heap.size W2 V)=>twiceC_calls A3 c3 cs V (Kd.C_below (Kd.R_reads' S1.out).2.2 h) (by have:=HLC.out;omega))
  have HTR:=aK (fun V (h:Below W2.heap.size W2 V)=>twiceR_calls A4 c4 rs V (Kd.C_below (Kd.R_reads' S2.out).2.2 h) (by have:=HLR.out;omega))
  have HOE:Aside0 (ofE sz cs0 ls cs rs=if sizeB sz && (cs0.all okC && ls.all okR) then (if decide (cs0.length≤256) && decide (ls.length≤500) then (if chainB (fun x y=>!(cmpC x y == 0)) cs && chainB (fun x y=>!(cmpR x y == 0)) rs then (sz,cs,rs,0) else (0,[],[],14)) else (0,[],[],3)) else (0,[],[],2)):=⟨rfl⟩
  have HK0:=aK (Below.refl W2.heap.size W2)
  obtain ⟨z1,hz1⟩ : ∃ z,z=sizeB sz:=⟨_,rfl⟩
  obtain ⟨z2,hz2⟩ : ∃ z,z=cs0.all okC:=⟨_,rfl⟩
  obtain ⟨z3,hz3⟩ : ∃ z,z=ls.all okR:=⟨_,rfl⟩
  rw [← hz1] at HSZ HOE
  rw [← hz2] at HAC HOE
  rw [← hz3] at HAR HOE
  clear hz1 hz2 hz3
  cases z1 with
  | false =>
   go_wp2_with fail
   refine (HSZ.out _).mono ?_
   rintro e W3 ⟨rfl,⟨n3,rfl⟩⟩
   have HK:=aK (pw_below_drewN HK0.out n3)
   generalize W2.drewN n3=W3 at *
   have HO:Aside0 (ofE sz cs0 ls cs rs=(0,[],[],2)):=⟨by rw [HOE.out];rfl⟩
   have HQ:=aK (blk_below HQ2.out HK.out)
   have q0:=blk_frozen HQ.out 0
   have q1:=blk_frozen HQ.out 1
   have q2:=blk_frozen HQ.out 2
   have q3:=(blk_cell HQ.out 0).trans rfl
   have q4:=(blk_cell HQ.out 1).trans rfl
   have q5:=(blk_cell HQ.out 2).trans rfl
   have HBZ:=aK (below_step HB2.out HK.out)
   have X3:=aK (blk_put (blk_put (blk_put HQ.out 0 (.int .i64 0) rfl) 1 (.slice none 0 0) rfl) 2 (.slice none 0 0) rfl)
   go_wp2
   refine bodyPost_ret (results_ct rfl _ _ w.heap.size 25 #[.int .i64 0,.slice none 0 0,.slice none 0 0] (0,0) _ rfl X3.out Tryz.underlying25 rfl (by kernel_rfl)) rfl ?_
   refine ⟨cs,rs,.slice none 0 0,.slice none 0 0,?_,HPC.out,HPR.out,?_,?_,below_set (below_set (below_set HBZ.out (Nat.le_refl _)) (Nat.le_refl _)) (Nat.le_refl _)⟩
   ·rw [HO.out];rfl
   ·rw [HO.out];exact Kd.R_nil _ _ _ _ _
   ·rw [HO.out];exact Kd.R_nil _ _ _ _ _
  | true =>
  go_wp2_with fail
  refine (HSZ.out _).mono ?_
  rintro e W3 ⟨rfl,⟨n3,rfl⟩⟩
  have HK3:=aK (pw_below_drewN HK0.out n3)
  generalize W2.drewN n3=W3 at *
  clear HK0 HSZ
  cases z2 with
  | false =>
   go_wp2_with fail
   refine (HAC.out _ HK3.out).mono ?_
   rintro e W4 ⟨rfl,hb4⟩
   have HK:=aK (below_step HK3.out hb4)
   clear hb4
   have HO:Aside0 (ofE sz cs0 ls cs rs=(0,[],[],2)):=⟨by rw [HOE.out];rfl⟩
   have HQ:=aK (blk_below HQ2.out HK.out)
   have q0:=blk_frozen HQ.out 0
   have q1:=blk_frozen HQ.out 1
   have q2:=blk_frozen HQ.out 2
   have q3:=(blk_cell HQ.out 0).trans rfl
   have q4:=(blk_cell HQ.out 1).trans rfl
   have q5:=(blk_cell HQ.out 2).trans rfl
   have HBZ:=aK (below_step HB2.out HK.out)
   have X3:=aK (blk_put (blk_put (blk_put HQ.out 0 (.int .i64 0) rfl) 1 (.slice none 0 0) rfl) 2 (.slice none 0 0) rfl)
   go_wp2
   refine bodyPost_ret (results_ct rfl _ _ w.heap.size 25 #[.int .i64 0,.slice none 0 0,.slice none 0 0] (0,0) _ rfl X3.out Tryz.underlying25 rfl (by kernel_rfl)) rfl ?_
   refine ⟨cs,rs,.slice none 0 0,.slice none 0 0,?_,HPC.out,HPR.out,?_,?_,below_set (below_set (below_set HBZ.out (Nat.le_refl _)) (Nat.le_refl _)) (Nat.le_refl _)⟩
   ·rw [HO.out];rfl
   ·rw [HO.out];exact Kd.R_nil _ _ _ _ _
   ·rw [HO.out];exact Kd.R_nil _ _ _ _ _
  | true =>
  go_wp2_with fail
  refine (HAC.out _ HK3.out).mono ?_
  rintro e W4 ⟨rfl,hb4⟩
  have HK4:=aK (below_step HK3.out hb4)
  clear hb4 HK3 HAC
  cases z3 with
  | false =>
   go_wp2_with fail
   refine (HAR.out _ HK4.out).mono ?_
   rintro e W5 ⟨rfl,hb5⟩
   have HK:=aK (below_step HK4.out hb5)
   clear hb5
   have HO:Aside0 (ofE sz cs0 ls cs rs=(0,[],[],2)):=⟨by rw [HOE.out];rfl⟩
   have HQ:=aK (blk_below HQ2.out HK.out)
   have q0:=blk_frozen HQ.out 0
   have q1:=blk_frozen HQ.out 1
   have q2:=blk_frozen HQ.out 2
   have q3:=(blk_cell HQ.out 0).trans rfl
   have q4:=(blk_cell HQ.out 1).trans rfl
   have q5:=(blk_cell HQ.out 2).trans rfl
   have HBZ:=aK (below_step HB2.out HK.out)
   have X3:=aK (blk_put (blk_put (blk_put HQ.out 0 (.int .i64 0) rfl) 1 (.slice none 0 0) rfl) 2 (.slice none 0 0) rfl)
   go_wp2
   refine bodyPost_ret (results_ct rfl _ _ w.heap.size 25 #[.int .i64 0,.slice none 0 0,.slice none 0 0] (0,0) _ rfl X3.out Tryz.underlying25 rfl (by kernel_rfl)) rfl ?_
   refine ⟨cs,rs,.slice none 0 0,.slice none 0 0,?_,HPC.out,HPR.out,?_,?_,below_set (below_set (below_set HBZ.out (Nat.le_refl _)) (Nat.le_refl _)) (Nat.le_refl _)⟩
   ·rw [HO.out];rfl
   ·rw [HO.out];exact Kd.R_nil _ _ _ _ _
   ·rw [HO.out];exact Kd.R_nil _ _ _ _ _
  | true =>
  go_wp2_with fail
  refine (HAR.out _ HK4.out).mono ?_
  rintro e W5 ⟨rfl,hb5⟩
  have HK:=aK (below_step HK4.out hb5)
  clear hb5 HK4 HAR
  by_cases hn1:cs0.length≤256
  case neg =>
   have hni:(256:Int)<(cs0.length:Int):=by omega
   have hnb:decide ((256:Int)<(cs0.length:Int))=true:=decide_eq_true hni
   have hnn:decide (256<cs0.length)=true:=decide_eq_true (by omega)
   have HN:=aK hn1
   clear hn1
   have HO:Aside0 (ofE sz cs0 ls cs rs=(0,[],[],3)):=⟨by rw [HOE.out,decide_eq_false HN.out];rfl⟩
   have HQ:=aK (blk_below HQ2.out HK.out)
   have q0:=blk_frozen HQ.out 0
   have q1:=blk_frozen HQ.out 1
   have q2:=blk_frozen HQ.out 2
   have q3:=(blk_cell HQ.out 0).trans rfl
   have q4:=(blk_cell HQ.out 1).trans rfl
   have q5:=(blk_cell HQ.out 2).trans rfl
   have HBZ:=aK (below_step HB2.out HK.out)
   have X3:=aK (blk_put (blk_put (blk_put HQ.out 0 (.int .i64 0) rfl) 1 (.slice none 0 0) rfl) 2 (.slice none 0 0) rfl)
   go_wp2
   refine bodyPost_ret (results_ct rfl _ _ w.heap.size 25 #[.int .i64 0,.slice none 0 0,.slice none 0 0] (0,0) _ rfl X3.out Tryz.underlying25 rfl (by kernel_rfl)) rfl ?_
   refine ⟨cs,rs,.slice none 0 0,.slice none 0 0,?_,HPC.out,HPR.out,?_,?_,below_set (below_set (below_set HBZ.out (Nat.le_refl _)) (Nat.le_refl _)) (Nat.le_refl _)⟩
   ·rw [HO.out];rfl
   ·rw [HO.out];exact Kd.R_nil _ _ _ _ _
   ·rw [HO.out];exact Kd.R_nil _ _ _ _ _
  have hni : ¬ (256:Int)<(cs0.length:Int):=by omega
  have hnb:decide ((256:Int)<(cs0.length:Int))=false:=decide_eq_false hni
  have hnn:decide (256<cs0.length)=false:=decide_eq_false (by omega)
  have HN1:=aK hn1
  clear hn1
  by_cases hn2:ls.length≤500
  case neg =>
   have hmi:(500:Int)<(ls.length:Int):=by omega
   have hmb:decide ((500:Int)<(ls.length:Int))=true:=decide_eq_true hmi
   have hmn:decide (500<ls.length)=true:=decide_eq_true (by omega)
   have HN:=aK hn2
   clear hn2
   have HO:Aside0 (ofE sz cs0 ls cs rs=(0,[],[],3)):=⟨by rw [HOE.out,decide_eq_true HN1.out,decide_eq_false HN.out];rfl⟩
   have HQ:=aK (blk_below HQ2.out HK.out)
   have q0:=blk_frozen HQ.out 0
   have q1:=blk_frozen HQ.out 1
   have q2:=blk_frozen HQ.out 2
   have q3:=(blk_cell HQ.out 0).trans rfl
   have q4:=(blk_cell HQ.out 1).trans rfl
   have q5:=(blk_cell HQ.out 2).trans rfl
   have HBZ:=aK (below_step HB2.out HK.out)
   have X3:=aK (blk_put (blk_put (blk_put HQ.out 0 (.int .i64 0) rfl) 1 (.slice none 0 0) rfl) 2 (.slice none 0 0) rfl)
   go_wp2
   refine bodyPost_ret (results_ct rfl _ _ w.heap.size 25 #[.int .i64 0,.slice none 0 0,.slice none 0 0] (0,0) _ rfl X3.out Tryz.underlying25 rfl (by kernel_rfl)) rfl ?_
   refine ⟨cs,rs,.slice none 0 0,.slice none 0 0,?_,HPC.out,HPR.out,?_,?_,below_set (below_set (below_set HBZ.out (Nat.le_refl _)) (Nat.le_refl _)) (Nat.le_refl _)⟩
   ·rw [HO.out];rfl
   ·rw [HO.out];exact Kd.R_nil _ _ _ _ _
   ·rw [HO.out];exact Kd.R_nil _ _ _ _ _
  have hmi : ¬ (500:Int)<(ls.length:Int):=by omega
  have hmb:decide ((500:Int)<(ls.length:Int))=false:=decide_eq_false hmi
  have hmn:decide (500<ls.length)=false:=decide_eq_false (by omega)
  have HN2:=aK hn2
  clear hn2
  obtain ⟨y1,hy1⟩ : ∃ z,z=chainB (fun x y=>!(cmpC x y == 0)) cs:=⟨_,rfl⟩
  obtain ⟨y2,hy2⟩ : ∃ z,z=chainB (fun x y=>!(cmpR x y == 0)) rs:=⟨_,rfl⟩
  rw [← hy1] at HTC HOE
  rw [← hy2] at HTR HOE
  clear hy1 hy2
  have HX5:=aK (blk_below HX2.out HK.out)
  have p1:=(blk_cell HX5.out 1).trans rfl
  have HK5:=HK
  clear HK
  cases y1 with
  | false =>
   go_wp2_with fail
   refine (HTC.out _ HK5.out).mono ?_
   rintro e W6 ⟨rfl,hb6⟩
   have HK:=aK (below_step HK5.out hb6)
   clear hb6 p1
   have HO:Aside0 (ofE sz cs0 ls cs rs=(0,[],[],14)):=⟨by rw [HOE.out,decide_eq_true HN1.out,decide_eq_true HN2.out];rfl⟩
   have HQ:=aK (blk_below HQ2.out HK.out)
   have q0:=blk_frozen HQ.out 0
   have q1:=blk_frozen HQ.out 1
   have q2:=blk_frozen HQ.out 2
   have q3:=(blk_cell HQ.out 0).trans rfl
   have q4:=(blk_cell HQ.out 1).trans rfl
   have q5:=(blk_cell HQ.out 2).trans rfl
   have HBZ:=aK (below_step HB2.out HK.out)
   have X3:=aK (blk_put (blk_put (blk_put HQ.out 0 (.int .i64 0) rfl) 1 (.slice none 0 0) rfl) 2 (.slice none 0 0) rfl)
   go_wp2
   refine bodyPost_ret (results_ct rfl _ _ w.heap.size 25 #[.int .i64 0,.slice none 0 0,.slice none 0 0] (0,0) _ rfl X3.out Tryz.underlying25 rfl (by kernel_rfl)) rfl ?_
   refine ⟨cs,rs,.slice none 0 0,.slice none 0 0,?_,HPC.out,HPR.out,?_,?_,below_set (below_set (below_set HBZ.out (Nat.le_refl _)) (Nat.le_refl _)) (Nat.le_refl _)⟩
   ·rw [HO.out];rfl
   ·rw [HO.out];exact Kd.R_nil _ _ _ _ _
   ·rw [HO.out];exact Kd.R_nil _ _ _ _ _
  | true =>
  go_wp2_with fail
  refine (HTC.out _ HK5.out).mono ?_
  rintro e W6 ⟨rfl,hb6⟩
  have HK6:=aK (below_step HK5.out hb6)
  clear hb6 p1 HTC HX5
  have HX6:=aK (blk_below HX2.out HK6.out)
  have p2:=(blk_cell HX6.out 2).trans rfl
  cases y2 with
  | false =>
   go_wp2_with fail
   refine (HTR.out _ HK6.out).mono ?_
   rintro e W7 ⟨rfl,hb7⟩
   have HK:=aK (below_step HK6.out hb7)
   clear hb7 p2
   have HO:Aside0 (ofE sz cs0 ls cs rs=(0,[],[],14)):=⟨by rw [HOE.out,decide_eq_true HN1.out,decide_eq_true HN2.out];rfl⟩
   have HQ:=aK (blk_below HQ2.out HK.out)
   have q0:=blk_frozen HQ.out 0
   have q1:=blk_frozen HQ.out 1
   have q2:=blk_frozen HQ.out 2
   have q3:=(blk_cell HQ.out 0).trans rfl
   have q4:=(blk_cell HQ.out 1).trans rfl
   have q5:=(blk_cell HQ.out 2).trans rfl
   have HBZ:=aK (below_step HB2.out HK.out)
   have X3:=aK (blk_put (blk_put (blk_put HQ.out 0 (.int .i64 0) rfl) 1 (.slice none 0 0) rfl) 2 (.slice none 0 0) rfl)
   go_wp2
   refine bodyPost_ret (results_ct rfl _ _ w.heap.size 25 #[.int .i64 0,.slice none 0 0,.slice none 0 0] (0,0) _ rfl X3.out Tryz.underlying25 rfl (by kernel_rfl)) rfl ?_
   refine ⟨cs,rs,.slice none 0 0,.slice none 0 0,?_,HPC.out,HPR.out,?_,?_,below_set (below_set (below_set HBZ.out (Nat.le_refl _)) (Nat.le_refl _)) (Nat.le_refl _)⟩
   ·rw [HO.out];rfl
   ·rw [HO.out];exact Kd.R_nil _ _ _ _ _
   ·rw [HO.out];exact Kd.R_nil _ _ _ _ _
  | true =>
  go_wp2_with fail
  refine (HTR.out _ HK6.out).mono ?_
  rintro e W7 ⟨rfl,hb7⟩
  have HK:=aK (below_step HK6.out hb7)
  clear hb7 p2 HK6 HX6 HTR
  have HO:Aside0 (ofE sz cs0 ls cs rs=(sz,cs,rs,0)):=⟨by rw [HOE.out,decide_eq_true HN1.out,decide_eq_true HN2.out];rfl⟩
  have HX7:=aK (blk_below HX2.out HK.out)
  have g0:=(blk_cell HX7.out 0).trans rfl
  have g1:=(blk_cell HX7.out 1).trans rfl
  have g2:=(blk_cell HX7.out 2).trans rfl
  have HQ:=aK (blk_below HQ2.out HK.out)
  have q0:=blk_frozen HQ.out 0
  have q1:=blk_frozen HQ.out 1
  have q2:=blk_frozen HQ.out 2
  have q3:=(blk_cell HQ.out 0).trans rfl
  have q4:=(blk_cell HQ.out 1).trans rfl
  have q5:=(blk_cell HQ.out 2).trans rfl
  have HBZ:=aK (below_step HB2.out HK.out)
  have T1:=aK (Kd.R_below S1.out HK.out)
  have T2:=aK (Kd.R_below S2.out HK.out)
  have X1:=aK (blk_put HQ.out 0 (.int .i64 sz) rfl)
  have X2:=aK (blk_put X1.out 1 (.slice A3 cs.length c3) rfl)
  have X3:=aK (blk_put X2.out 2 (.slice A4 rs.length c4) rfl)
  go_wp2
  refine bodyPost_ret (results_ct rfl _ _ w.heap.size 25 #[.int .i64 sz,.slice A3 cs.length c3,.slice A4 rs.length c4] (0,0) _ rfl X3.out Tryz.underlying25 rfl (by kernel_rfl)) rfl ?_
  refine ⟨cs,rs,.slice A3 cs.length c3,.slice A4 rs.length c4,?_,HPC.out,HPR.out,?_,?_,below_set (below_set (below_set HBZ.out (Nat.le_refl _)) (Nat.le_refl _)) (Nat.le_refl _)⟩
  ·rw [HO.out];rfl
  ·rw [HO.out];exact Kd.R_set (Kd.R_set (Kd.R_set T1.out HQ.out (fun q hq=>by rw [opq50 q hq];decide) 0 _) X1.out (fun q hq=>by rw [opq50 q hq];decide) 1 _) X2.out (fun q hq=>by rw [opq50 q hq];decide) 2 _
  ·rw [HO.out];exact Kd.R_set (Kd.R_set (Kd.R_set T2.out HQ.out (fun q hq=>by rw [opq45 q hq];decide) 0 _) X1.out (fun q hq=>by rw [opq45 q hq];decide) 1 _) X2.out (fun q hq=>by rw [opq45 q hq];decide) 2 _
end Go.Proofs.YtoemkemmiikhlaaGreat.PF4
