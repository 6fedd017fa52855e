import Derived.Test.YtoemkemmiikhlaaGreatPF3x0
import Derived.Test.YtoemkemmiikhlaaGreatPF3x7
import Derived.Test.YtoemkemmiikhlaaGreatPF3x9
import Derived.Test.YtoemkemmiikhlaaGreatPF3x15
import Derived.Test.YtoemkemmiikhlaaGreatPF3x17
namespace Go.Proofs.YtoemkemmiikhlaaGreat.PF3
open Go.RowKit Go.Proofs.YtoemkemmiikhlaaGreatW.PrintWords Go.Proofs.YtoemkemmiikhlaaGreatW.PrintLast Go.Proofs.YtoemkemmiikhlaaGreatW.PrintMore
attribute [local go_sem] max2_int min2_int max_two min_two max_three min_three max_four min_four
set_option linter.unusedVariables false
set_option linter.unusedSimpArgs false
theorem infoGl:(Tryz.prog.info? 42).map (fun i=>(i.zero,i.size,i.bytes))=some (some (.agg #[(.int .i64 0),(.int .i64 0),(.int .i64 0),(.int .i64 0),.slice none 0 0]),5,56):=by kernel_rfl
def glS (x:S42):S50:=⟨x.f0,x.f1,x.f2,x.f3⟩
theorem gl_to {w:World} {A:Option Addr} {n:Nat} {l:List S42} (h:Kd.C k42 w A n l) : ∃ gs:List GlyphV,Kd.C kGl w A n gs∧gs.map glC=l.map glS:=by
 have key : ∀ m,m≤l.length→∃ gs:List GlyphV,gs.length=m∧gs.map glC=(l.take m).map glS∧∀ ad,A=some ad→∀ j p,gs[j]?=some p→∀ i u,p.cells[i]?=some u→w.cell? (ad.add (j*5+i))=some u:=by
  intro m
  induction m with
  | zero=>exact fun _=>⟨[],rfl,rfl,fun ad _ j p hj=>by simp at hj⟩
  | succ m ih =>
   intro hm
   obtain ⟨gs,hg,hgl,hc⟩:=ih (by omega)
   obtain ⟨ad,e,hd⟩:=h.2.2 (by have:=h.1;omega)
   obtain ⟨c,hcl,hK,hcell⟩:=hd m l[m] (List.getElem?_eq_getElem (by omega))
   obtain ⟨A4,c4,rfl,-,-⟩:=k42_open hK
   refine ⟨gs++[⟨l[m].f0,l[m].f1,l[m].f2,l[m].f3,A4,l[m].f4.length,c4⟩],by simp [hg],?_,fun ad' e' j p hj=>?_⟩
   ·rw [List.map_append,hgl,List.take_succ_eq_append_getElem (by omega),List.map_append];rfl
   ·rcases Nat.lt_or_ge j gs.length with h1|h1
    ·rw [List.getElem?_append_left h1] at hj;exact hc ad' e' j p hj
    ·rw [List.getElem?_append_right h1] at hj
     have hj0:j=m:=by
      rcases Nat.eq_zero_or_pos (j-gs.length) with h2|h2
      ·omega
      ·rw [List.getElem?_eq_none (by simp;omega)] at hj;cases hj
     subst hj0
     rw [hg,Nat.sub_self] at hj
     obtain rfl:_=p:=Option.some.inj hj
     rw [e] at e'
     injection e' with e'
     subst e'
     exact hcell
 obtain ⟨gs,hg,hgl,hc⟩:=key l.length (Nat.le_refl _)
 rw [List.take_length] at hgl
 refine ⟨gs,⟨hg.trans h.1,h.2.1,fun hn=>?_⟩,hgl⟩
 obtain ⟨ad,e,-⟩:=h.2.2 hn
 exact ⟨ad,e,fun j p hj=>⟨p.cells,rfl,rfl,hc ad e j p hj⟩⟩
theorem rev_next {α:Type} (l:List α) (z:α) (i:Nat) (h:i<l.length):l.reverse.take (i+1)=l.reverse.take i++[l.getD (l.length-1-i) z]:=by
 rw [List.take_succ_eq_append_getElem (by simpa using h),List.getElem_reverse,List.getD_eq_getElem?_getD,List.getElem?_eq_getElem (by omega)]
 rfl
def fleuronlaw27_MetricMakes.P (k:Nat) (size:Int) (gs:List S42) (ls:List S45):Prop :=
 300 < gs.length ∨ 600 < ls.length ∨ ((gs.length ≤ 300 ∧ ls.length ≤ 600) ∧ ∃ X : Int × List S50 × List S45 × Int, (X.2.1.length ≤ 1000 ∧ X.2.2.1.length ≤ 1000) ∧
  (∀ cs rs,cs.Perm (gs.map glS)→RiseC cs→rs.Perm ls→RiseR rs→ofE size (gs.map glS) ls cs rs=X)∧ofR size (gs.map glS) ls=X ∧
  (∀ cs rs,cs.Perm (gs.map glS).reverse→RiseC cs→rs.Perm ls.reverse→RiseR rs→ofE size (gs.map glS).reverse ls.reverse cs rs=X) ∧
  fleuronref27_Same.f k X.1 X.2.1 X.2.2.1 X.1 X.2.1 X.2.2.1=some true)
set_option maxHeartbeats 16000000 in
set_option maxRecDepth 100000 in
theorem fleuronlaw27_MetricMakes.calls (k : Nat) (size : Int) (A1 : Option Addr) (c1 : Nat) (l : List S42) (A2 : Option Addr) (c2 : Nat) (ls : List S45) (w : World) (hr1 : Kd.C k42 w A1 l.length l) (hc1 : l.length ≤ c1) (hr2 : Kd.C k45 w A2 ls.length ls) (hc2 : ls.length ≤ c2) (h : fleuronlaw27_MetricMakes.P k size l ls) :
  Calls Tryz.prog 5 #[.int .i64 size,.slice A1 l.length c1,.slice A2 ls.length c2] w fun e w'=>e = .returned (.bool true)∧Below w.heap.size w w':=by
 have hu:=Tryz.underlying25
 have hu42:=Tryz.underlying42
 have hu45:=Tryz.underlying45
 obtain ⟨gs,hrg,hgl⟩:=gl_to hr1
 have hgn:gs.length=l.length:=hrg.1
 rw [← hgn] at hrg hc1 ⊢
 have HR1:=aK hrg
 have HR2:=aK hr2
 have HC2:=aK hc2
 have HGL:=aK hgl
 have HB:Aside0 (Below w.heap.size w w):=⟨Below.refl _ _⟩
 obtain h|h|⟨hln,X,hxl,hx1,hx2,hx3,hsame⟩:=h
 ·have g0:300<gs.length:=by omega
  have g1:(300:Int)<(gs.length:Int):=by omega
  have g2:decide ((300:Int)<(gs.length:Int))=true:=decide_eq_true g1
  have g3:decide (300<gs.length)=true:=decide_eq_true g0
  clear h hrg hr1 hr2 hc1 hc2 hgl hgn
  go_enter Tryz.func5,Tryz.ntmps5
  go_wp2_with fail
  refine (fleuronlaw27_awake.calls true _ rfl).mono ?_
  rintro e WZ ⟨rfl,hbz⟩
  go_wp2
  go_ret
  exact ⟨rfl,below_step HB.out hbz⟩
 ·by_cases hg:300<gs.length
  ·have g1:(300:Int)<(gs.length:Int):=by omega
   have g2:decide ((300:Int)<(gs.length:Int))=true:=decide_eq_true g1
   have g3:decide (300<gs.length)=true:=decide_eq_true hg
   clear h hrg hr1 hr2 hc1 hc2 hgl hgn
   go_enter Tryz.func5,Tryz.ntmps5
   go_wp2_with fail
   refine (fleuronlaw27_awake.calls true _ rfl).mono ?_
   rintro e WZ ⟨rfl,hbz⟩
   go_wp2
   go_ret
   exact ⟨rfl,below_step HB.out hbz⟩
  ·have g1 : ¬ (300:Int)<(gs.length:Int):=by omega
   have g2:decide ((300:Int)<(gs.length:Int))=false:=decide_eq_false g1
   have g3:decide (300<gs.length)=false:=decide_eq_false hg
   have g4:(600:Int)<(ls.length:Int):=by omega
   have g5:decide ((600:Int)<(ls.length:Int))=true:=decide_eq_true g4
   have g6:decide (600<ls.length)=true:=decide_eq_true h
   clear h hrg hr1 hr2 hc1 hc2 hgl hgn hg
   go_enter Tryz.func5,Tryz.ntmps5
   go_wp2_with fail
   refine (fleuronlaw27_awake.calls true _ rfl).mono ?_
   rintro e WZ ⟨rfl,hbz⟩
   go_wp2
   go_ret
   exact ⟨rfl,below_step HB.out hbz⟩
 have HLN:Aside0 (gs.length≤300∧ls.length≤600):=⟨by omega⟩
 have HX1:=aK hx1
 have HX3:=aK hx3
 have HX2:=aK hx2
 have HXL:=aK hxl
 have HSA:=aK hsame
 have hln2:gs.length≤300∧ls.length≤600:=HLN.out
 have g1 : ¬ (300:Int)<(gs.length:Int):=by omega
 have g2:decide ((300:Int)<(gs.length:Int))=false:=decide_eq_false g1
 have g3:decide (300<gs.length)=false:=decide_eq_false (by omega)
 have g4 : ¬ (600:Int)<(ls.length:Int):=by omega
 have g5:decide ((600:Int)<(ls.length:Int))=false:=decide_eq_false g4
 have g6:decide (600<ls.length)=false:=decide_eq_false (by omega)
 clear hx1 hx2 hx3 hxl hsame hln hln2 hrg hr1 hr2 hc1 hc2 hgl hgn
 obtain ⟨x0,xc,xr,xe⟩:=X
 simp only at HX1 HX2 HX3 HXL HSA
 rw [← HGL.out] at HX1 HX2 HX3
 go_enter Tryz.func5,Tryz.ntmps5
 go_wp2_with fail
 refine (of_calls size A1 c1 gs A2 c2 ls w HR1.out HR2.out HC2.out (by have:=HLN.out;omega) (by have:=HLN.out;omega)).mono ?_
 rintro e W1 ⟨cs1,rs1,v1,v2,rfl,⟨hp1,hq1⟩,⟨hp2,hq2⟩,hr3,hr4,hb⟩
 rw [HX1.out cs1 rs1 hp1 hq1 hp2 hq2] at hr3 hr4 ⊢
 simp only at hr3 hr4 ⊢
 obtain ⟨A3,c3,rfl⟩:=Kd.R_slice hr3
 obtain ⟨A4,c4,rfl⟩:=Kd.R_slice hr4
 have hq3:=Kd.R_reads' hr3
 have hq4:=Kd.R_reads' hr4
 have hb2:=below_alloc hb (.cells #[.int .i64 x0,.slice A3 xc.length c3,.slice A4 xr.length c4] 25)
 have HB1:=aK (below_step HB.out hb2)
 have X1:=aK (blk_new W1 (.cells #[.int .i64 x0,.slice A3 xc.length c3,.slice A4 xr.length c4] 25))
 have RA:=aK (And.intro (Kd.C_below hq3.2.2 (below_alloc (Below.refl _ _) (.cells #[.int .i64 x0,.slice A3 xc.length c3,.slice A4 xr.length c4] 25))) hq3.2.1)
 have RB:=aK (And.intro (Kd.C_below hq4.2.2 (below_alloc (Below.refl _ _) (.cells #[.int .i64 x0,.slice A3 xc.length c3,.slice A4 xr.length c4] 25))) hq4.2.1)
 clear hb hb2 hr3 hr4 hq3 hq4 HB 
 clear hp1 hq1 hp2 hq2
 go_upto_region 4 with (fail)
 clear g1 g2 g3 g4 g5 g6
 generalize W1.heap.size=b7 at *
 generalize W1.alloc (.cells #[.int .i64 x0,.slice A3 xc.length c3,.slice A4 xr.length c4] 25)=V1 at *
 go_wp2_with fail
 refine (refOf_calls size A1 c1 gs A2 c2 ls V1 (Kd.C_below HR1.out HB1.out) (Kd.C_below HR2.out HB1.out) (by have:=HLN.out;omega) (by have:=HLN.out;omega)).mono ?_
 rintro e W2 ⟨v1,v2,rfl,hr3,hr4,hb⟩
 rw [HX2.out] at hr3 hr4 ⊢
 simp only at hr3 hr4 ⊢
 obtain ⟨A5,c5,rfl⟩:=Kd.R_slice hr3
 obtain ⟨A6,c6,rfl⟩:=Kd.R_slice hr4
 have hq3:=Kd.R_reads' hr3
 have hq4:=Kd.R_reads' hr4
 have hb2:=below_alloc hb (.cells #[.int .i64 x0,.slice A5 xc.length c5,.slice A6 xr.length c6] 25)
 have HB2:=aK (below_step HB1.out hb2)
 have X2:=aK (blk_new W2 (.cells #[.int .i64 x0,.slice A5 xc.length c5,.slice A6 xr.length c6] 25))
 have RC:=aK (And.intro (Kd.C_below hq3.2.2 (below_alloc (Below.refl _ _) (.cells #[.int .i64 x0,.slice A5 xc.length c5,.slice A6 xr.length c6] 25))) hq3.2.1)
 have RD:=aK (And.intro (Kd.C_below hq4.2.2 (below_alloc (Below.refl _ _) (.cells #[.int .i64 x0,.slice A5 xc.length c5,.slice A6 xr.length c6] 25))) hq4.2.1)
 have X1_:=aK (blk_below X1.out hb2)
 have RA_:=aK (And.intro (Kd.C_below RA.out.1 hb2) RA.out.2)
 have RB_:=aK (And.intro (Kd.C_below RB.out.1 hb2) RB.out.2)
 clear hb hb2 hr3 hr4 hq3 hq4 HB1 X1 RA RB
 have X1:=X1_
 have RA:=RA_
 have RB:=RB_
 clear X1_ RA_ RB_
 go_upto_region 7 with (fail)
 generalize W2.heap.size=b9 at *
 generalize W2.alloc (.cells #[.int .i64 x0,.slice A5 xc.length c5,.slice A6 xr.length c6] 25)=V2 at *
 go_upto_block 0 with (fail)
 go_cut [11] (fun s11 wc=>Aside0 (Kd.R kGl 42 wc V2.heap.size (fun _=>True) s11 gs.reverse)∧Aside0 (Below V2.heap.size V2 wc))
 case first =>
  go_wp2_with fail
  go_loopg [11,42] gs.length (fun gg s11 s wr=>∃ i:Nat,i≤gs.length∧gs.length-i≤gg∧s = .int .i64 i∧Aside0 (Kd.R kGl 42 wr V2.heap.size (fun _=>True) s11 (gs.reverse.take i))∧Aside0 (Below V2.heap.size V2 wr))
  case atStart=>exact ⟨0,by omega,by omega,rfl,⟨Kd.R_nil _ _ _ _ _⟩,⟨Below.refl _ _⟩⟩
  case round =>
   obtain ⟨i,hi,hg,rfl,HO,HBr⟩:=hrel
   by_cases hlt:i<gs.length
   ·have hlti:(i:Int)<(gs.length:Int):=by omega
    have hi0:(0:Int)≤(i:Int):=by omega
    obtain ⟨z,hze⟩ : ∃ z:Int,((gs.length-1-i:Nat):Int)=z:=⟨_,rfl⟩
    obtain ⟨z1,hz1⟩ : ∃ z:Int,((gs.length-1:Nat):Int)=z:=⟨_,rfl⟩
    have HW1:=aK (show wrap64 ((gs.length:Int)-1)=z1 by have:=HLN.out;unfold wrap64;omega)
    have HW2:=aK (show wrap64 (z1-(i:Int))=z by have:=HLN.out;unfold wrap64;omega)
    have q1:0≤z:=by omega
    have q2:z<(gs.length:Int):=by omega
    obtain ⟨ad,e1,hx0,hx1,hx2,hx3,hx4⟩:=at_Gl (Kd.C_below HR1.out (below_step HB2.out HBr.out)) z q1 q2
    have HN:=aK (rev_next gs zGl i hlt)
    have hz2:gs.length-1-i=z.toNat:=by omega
    rw [hz2] at HN
    have HSTEP:=aK (show wrap64 ((i:Int)+1)=((i+1:Nat):Int) by have:=HLN.out;unfold wrap64;omega)
    have HXN:Aside0 (((gs.reverse.take i).length+1)*56≤140737488355328):=⟨by have:=HLN.out;simp;omega⟩
    generalize gs.getD z.toNat zGl=x at *
    generalize gs.reverse.take i=xs at *
    subst e1
    obtain ⟨A9,c9,rfl⟩:=Kd.R_slice HO.out
    clear hz2 hze hz1
    have hw1:=HW1.out
    have hw2:=HW2.out
    go_wp2_with ((with_reducible refine gate_builtin (b:=.append) (xs:=#[.tmp 45,.tmp 54]) rfl ?_);at_builtin;refine Kd.R_append kGl (w0:=V2) V2.heap.size rfl (.tmp 45) (.tmp 54) 37 42 (.agg #[(.int .i64 0),(.int .i64 0),(.int .i64 0),(.int .i64 0),.slice none 0 0]) 56 rfl Tryz.underlying37 infoGl rfl (by decide) (by omega) (.slice A9 xs.length c9) xs x x.cells (fun _=>True) (fun _=>False) rfl (by first|(go_simp;done)|(go_simp;rfl)) ?aP (fun _ hk=>hk.elim) ?aF ?aO ?aB ?aS ?aL ?_;(case aP=>exact rfl);(case aF=>exact (fun _ _=>trivial));(case aO=>exact HO.out);(case aB=>exact HBr.out);(case aS=>exact HBr.out.size);(case aL=>exact HXN.out);intro v3 w3 ho hb hg hat;rw [← HN.out] at ho;have HO3:=aK ho;have HB3:=aK hb;clear ho hb hg hat hx0 hx1 hx2 hx3 hx4)
    go_roundg (gs.length-(i+1))
    case measure=>omega
    case rel=>exact ⟨i+1,by omega,by omega,by first|exact congrArg (Value.int .i64) HSTEP.out|go_num,HO3,HB3⟩
   ·have hlti : ¬ (i:Int)<(gs.length:Int):=by omega
    obtain rfl:i=gs.length:=by omega
    have hrl:gs.reverse.take gs.length=gs.reverse:=by rw [← List.length_reverse,List.take_length]
    rw [hrl] at HO
    go_wp2
    go_meet
    case rel=>exact ⟨HO,HBr⟩
 case rest =>
 obtain ⟨HO1,HB3⟩:=hcut
 obtain ⟨w5,hw5⟩ : ∃ w5:World,w5=wc:=⟨_,rfl⟩
 subst hw5
 go_upto_block 2 with (fail)
 go_cut [12] (fun s12 wd=>Aside0 (Kd.R k45 45 wd w5.heap.size (fun _=>True) s12 ls.reverse)∧Aside0 (Below w5.heap.size w5 wd))
 case first =>
  go_wp2_with fail
  go_loopg [12,59] ls.length (fun gg s11 s wr=>∃ i:Nat,i≤ls.length∧ls.length-i≤gg∧s = .int .i64 i∧Aside0 (Kd.R k45 45 wr w5.heap.size (fun _=>True) s11 (ls.reverse.take i))∧Aside0 (Below w5.heap.size w5 wr))
  case atStart=>exact ⟨0,by omega,by omega,rfl,⟨Kd.R_nil _ _ _ _ _⟩,⟨Below.refl _ _⟩⟩
  case round =>
   obtain ⟨i,hi,hg,rfl,HO,HBr⟩:=hrel
   by_cases hlt:i<ls.length
   ·have hlti:(i:Int)<(ls.length:Int):=by omega
    have hi0:(0:Int)≤(i:Int):=by omega
    obtain ⟨z,hze⟩ : ∃ z:Int,((ls.length-1-i:Nat):Int)=z:=⟨_,rfl⟩
    obtain ⟨z1,hz1⟩ : ∃ z:Int,((ls.length-1:Nat):Int)=z:=⟨_,rfl⟩
    have HW1:=aK (show wrap64 ((ls.length:Int)-1)=z1 by have:=HLN.out;unfold wrap64;omega)
    have HW2:=aK (show wrap64 (z1-(i:Int))=z by have:=HLN.out;unfold wrap64;omega)
    have q1:0≤z:=by omega
    have q2:z<(ls.length:Int):=by omega
    obtain ⟨ad,e1,hx0,hx1,hx2,hx3⟩:=at_T45 (Kd.C_below HR2.out (below_step HB2.out (below_step HB3.out HBr.out))) z q1 q2
    have HN:=aK (rev_next ls ⟨0,0,0,0⟩ i hlt)
    have hz2:gs.length-1-i=gs.length-1-i:=rfl
    have hrd:ls.getD (ls.length-1-i) ⟨0,0,0,0⟩=rd_T45 ls z:=by rw [← hze];simp [rd_T45];rfl
    rw [hrd] at HN
    have HSTEP:=aK (show wrap64 ((i:Int)+1)=((i+1:Nat):Int) by have:=HLN.out;unfold wrap64;omega)
    have HXN:Aside0 (((ls.reverse.take i).length+1)*32≤140737488355328):=⟨by have:=HLN.out;simp;omega⟩
    generalize rd_T45 ls z=x at *
    generalize ls.reverse.take i=xs at *
    subst e1
    obtain ⟨A9,c9,rfl⟩:=Kd.R_slice HO.out
    clear hz2 hze hz1 hrd
    have hw1:=HW1.out
    have hw2:=HW2.out
    go_wp2_with ((with_reducible refine gate_builtin (b:=.append) (xs:=#[.tmp 62,.tmp 71]) rfl ?_);at_builtin;refine Kd.R_append k45 (w0:=w5) w5.heap.size rfl (.tmp 62) (.tmp 71) 23 45 (.agg #[(.int .i64 0),(.int .i64 0),(.int .i64 0),(.int .i64 0)]) 32 rfl Tryz.underlying23 info45 rfl (by decide) (by omega) (.slice A9 xs.length c9) xs x [.int .i64 x.f0,.int .i64 x.f1,.int .i64 x.f2,.int .i64 x.f3] (fun _=>True) (fun _=>False) rfl (by first|(go_simp;done)|(go_simp;rfl)) ?aP (fun _ hk=>hk.elim) ?aF ?aO ?aB ?aS ?aL ?_;(case aP=>exact k45_mkM _ _ _ x);(case aF=>exact (fun _ _=>trivial));(case aO=>exact HO.out);(case aB=>exact HBr.out);(case aS=>exact HBr.out.size);(case aL=>exact HXN.out);intro v3 w3 ho hb hg hat;rw [← HN.out] at ho;have HO3:=aK ho;have HB4:=aK hb;clear ho hb hg hat hx0 hx1 hx2 hx3)
    go_roundg (ls.length-(i+1))
    case measure=>omega
    case rel=>exact ⟨i+1,by omega,by omega,by first|exact congrArg (Value.int .i64) HSTEP.out|go_num,HO3,HB4⟩
   ·have hlti : ¬ (i:Int)<(ls.length:Int):=by omega
    obtain rfl:i=ls.length:=by omega
    have hrl:ls.reverse.take ls.length=ls.reverse:=by rw [← List.length_reverse,List.take_length]
    rw [hrl] at HO
    go_wp2
    go_meet
    case rel=>exact ⟨HO,HBr⟩
 case rest =>
 obtain ⟨HO2,HB4⟩:=hcut
 have hqg:=Kd.R_below HO1.out HB4.out
 obtain ⟨A7,c7,rfl⟩:=Kd.R_slice hqg
 obtain ⟨A8,c8,rfl⟩:=Kd.R_slice HO2.out
 have HQG:=aK (Kd.R_reads' hqg)
 have HQL:=aK (Kd.R_reads' HO2.out)
 have HB5:=aK (below_step HB2.out (below_step HB3.out HB4.out))
 have hbk:=below_step HB3.out HB4.out
 have X1b:=aK (blk_below X1.out hbk)
 have X2b:=aK (blk_below X2.out hbk)
 have RA1:=aK (And.intro (Kd.C_below RA.out.1 hbk) RA.out.2)
 have RB1:=aK (And.intro (Kd.C_below RB.out.1 hbk) RB.out.2)
 have RC1:=aK (And.intro (Kd.C_below RC.out.1 hbk) RC.out.2)
 have RD1:=aK (And.intro (Kd.C_below RD.out.1 hbk) RD.out.2)
 clear hqg hbk HO1 HO2 HB2 HB3 HB4 X1 X2 RA RB RC RD
 have hc:=of_calls size A7 c7 gs.reverse A8 c8 ls.reverse wc HQG.out.2.2 HQL.out.2.2 HQL.out.2.1 (by have:=HLN.out;simp;omega) (by have:=HLN.out;simp;omega)
 simp only [List.length_reverse] at hc
 go_wp2_with fail
 refine hc.mono ?_
 clear hc
 rintro e W3 ⟨cs1,rs1,v1,v2,rfl,⟨hp1,hq1⟩,⟨hp2,hq2⟩,hr3,hr4,hb⟩
 have hx3:=HX3.out cs1 rs1 (by rw [← List.map_reverse];exact hp1) hq1 hp2 hq2
 rw [← List.map_reverse] at hx3
 rw [hx3] at hr3 hr4 ⊢
 simp only at hr3 hr4 ⊢
 obtain ⟨A10,c10,rfl⟩:=Kd.R_slice hr3
 obtain ⟨A11,c11,rfl⟩:=Kd.R_slice hr4
 have hq3:=Kd.R_reads' hr3
 have hq4:=Kd.R_reads' hr4
 have hb2:=below_alloc hb (.cells #[.int .i64 x0,.slice A10 xc.length c10,.slice A11 xr.length c11] 25)
 have HB6:=aK (below_step HB5.out hb2)
 have X3:=aK (blk_new W3 (.cells #[.int .i64 x0,.slice A10 xc.length c10,.slice A11 xr.length c11] 25))
 have RE:=aK (And.intro (Kd.C_below hq3.2.2 (below_alloc (Below.refl _ _) (.cells #[.int .i64 x0,.slice A10 xc.length c10,.slice A11 xr.length c11] 25))) hq3.2.1)
 have RF:=aK (And.intro (Kd.C_below hq4.2.2 (below_alloc (Below.refl _ _) (.cells #[.int .i64 x0,.slice A10 xc.length c10,.slice A11 xr.length c11] 25))) hq4.2.1)
 have X1c:=aK (blk_below X1b.out hb2)
 have X2c:=aK (blk_below X2b.out hb2)
 have RA2:=aK (And.intro (Kd.C_below RA1.out.1 hb2) RA1.out.2)
 have RB2:=aK (And.intro (Kd.C_below RB1.out.1 hb2) RB1.out.2)
 have RC2:=aK (And.intro (Kd.C_below RC1.out.1 hb2) RC1.out.2)
 have RD2:=aK (And.intro (Kd.C_below RD1.out.1 hb2) RD1.out.2)
 clear hb hb2 hr3 hr4 hq3 hq4 HB5 X1b X2b RA1 RB1 RC1 RD1
 clear hp1 hq1 hp2 hq2 hx3
 go_upto_region 18 with (fail)
 generalize W3.heap.size=b15 at *
 generalize W3.alloc (.cells #[.int .i64 x0,.slice A10 xc.length c10,.slice A11 xr.length c11] 25)=V3 at *
 have p0:=(blk_cell X1c.out 0).trans rfl
 have n0:=(blk_cell X2c.out 0).trans rfl
 have p1:=(blk_cell X1c.out 1).trans rfl
 have n1:=(blk_cell X2c.out 1).trans rfl
 have p2:=(blk_cell X1c.out 2).trans rfl
 have n2:=(blk_cell X2c.out 2).trans rfl
 have hc:=fun V h1 h2 h3 h4=>fleuronref27_Same.calls k x0 A3 c3 xc A4 c4 xr x0 A5 c5 xc A6 c6 xr true V h1 RA2.out.2 h2 RB2.out.2 h3 RC2.out.2 h4 RD2.out.2 HSA.out
 go_wp2_with fail
 refine (hc V3 RA2.out.1 RB2.out.1 RC2.out.1 RD2.out.1).mono ?_
 clear hc p0 p1 p2 n0 n1 n2
 rintro e W4 ⟨rfl,hb⟩
 have HB7:=aK (below_step HB6.out hb)
 have X1d:=aK (blk_below X1c.out hb)
 have X3d:=aK (blk_below X3.out hb)
 have RA3:=aK (And.intro (Kd.C_below RA2.out.1 hb) RA2.out.2)
 have RB3:=aK (And.intro (Kd.C_below RB2.out.1 hb) RB2.out.2)
 have RE3:=aK (And.intro (Kd.C_below RE.out.1 hb) RE.out.2)
 have RF3:=aK (And.intro (Kd.C_below RF.out.1 hb) RF.out.2)
 clear hb X1c X2c X3 RA2 RB2 RC2 RD2 RE RF HB6
 have p0:=(blk_cell X1d.out 0).trans rfl
 have n0:=(blk_cell X3d.out 0).trans rfl
 have p1:=(blk_cell X1d.out 1).trans rfl
 have n1:=(blk_cell X3d.out 1).trans rfl
 have p2:=(blk_cell X1d.out 2).trans rfl
 have n2:=(blk_cell X3d.out 2).trans rfl
 have hc:=fun V h1 h2 h3 h4=>fleuronref27_Same.calls k x0 A10 c10 xc A11 c11 xr x0 A3 c3 xc A4 c4 xr true V h1 RE3.out.2 h2 RF3.out.2 h3 RA3.out.2 h4 RB3.out.2 HSA.out
 go_wp2_with fail
 refine (hc W4 RE3.out.1 RF3.out.1 RA3.out.1 RB3.out.1).mono ?_
 clear hc p0 p1 p2 n0 n1 n2
 rintro e W5 ⟨rfl,hb⟩
 have HB:=aK (below_step HB7.out hb)
 clear hb HB7 X1d X3d RA3 RB3 RE3 RF3
 go_wp2_with fail
 refine (fleuronlaw27_awake.calls true _ rfl).mono ?_
 rintro e WZ ⟨rfl,hbz⟩
 go_wp2
 go_ret
 exact ⟨rfl,below_step HB.out hbz⟩
end Go.Proofs.YtoemkemmiikhlaaGreat.PF3
