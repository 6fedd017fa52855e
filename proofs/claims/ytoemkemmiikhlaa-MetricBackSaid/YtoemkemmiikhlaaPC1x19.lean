import Derived.Test.YtoemkemmiikhlaaPC1x0
import Derived.Test.YtoemkemmiikhlaaPC1x3
import Derived.Test.YtoemkemmiikhlaaPC1x5
import Derived.Test.YtoemkemmiikhlaaPC1x7
import Derived.Test.YtoemkemmiikhlaaPC1x9
import Derived.Test.YtoemkemmiikhlaaPC1x10
import Derived.Test.YtoemkemmiikhlaaPC1x18
namespace Go.Proofs.Ytoemkemmiikhlaa.PC1
open Go.RowKit Go.Proofs.YtoemkemmiikhlaaW.PrintWords Go.Proofs.YtoemkemmiikhlaaW.PrintLast Go.Proofs.YtoemkemmiikhlaaW.PrintMore
attribute [local go_sem] max2_int min2_int max_two min_two max_three min_three max_four min_four
set_option linter.unusedVariables false
set_option linter.unusedSimpArgs false
theorem lit1_M {W:World} {b:Nat} {x:S25} {A1 A2:Option Addr} {c1 c2:Nat} (h1:Kd.C k41 W A1 x.f1.length x.f1) (l1:x.f1.length≤c1) (h2:Kd.C k46 W A2 x.f2.length x.f2) (l2:x.f2.length≤c2) (hb:W.heap[b]?=some (.cells #[.int .i64 x.f0,.slice A1 x.f1.length c1,.slice A2 x.f2.length c2] 25 (0,0))):Kd.C k25 W (some ⟨b,0,none⟩) 1 [x]:=by
 refine ⟨rfl,by decide,fun _=>⟨⟨b,0,none⟩,rfl,fun j p hj=>?_⟩⟩
 rcases j with _|j
 ·obtain rfl:x=p:=by simpa using hj
  refine ⟨_,rfl,k25_mk W x l1 h1 l2 h2,fun i u hu=>?_⟩
  rw [add_plain,Nat.zero_mul,Nat.zero_add,blk_cell hb i]
  rw [← hu,← List.getElem?_toArray]
 ·simp at hj
theorem cut_two {P : Program} (t e : TypeId) (kh km : IntKind) {i : TypeInfo} (ht : P.underlying t = some (.slice e)) (hi : P.info? e = some i) (A : Option Addr) (n c : Nat) (j : Int) (h0 : 0 ≤ j) (hm : j ≤ n) (hc : n ≤ c) :
  ∀ W:World,(Instr.slice t (.slice A n c) none (some (.int kh j)) (some (.int km j))).run P W = .ok (.slice A j.toNat j.toNat) W:=by
 intro W
 have hel:P.elem t=e:=by simp [Program.elem,ht]
 have hu:P.underlying t=some (.slice (P.elem t)):=by rw [hel];exact ht
 have ha:(A.map fun x=>x.add 0)=A:=by cases A <;> simp [Addr.add]
 rw [run_slice_hm W t A n c hu kh km j j h0 (by omega) (by omega),hel]
 simp [sizeOf,typeInfo,hi,sliced,Result.andThen,ha]
def fleuronlaw27_MetricBack.P (k:Nat) (sz:Int) (cs:List S41) (rs:List S46) (at_ more:Int):Prop :=
 (0 ≤ more ∧ more < 256) ∧ (fleuronlaw27_few.f k [⟨sz, cs, rs⟩] = some false ∨ (fleuronlaw27_few.f k [⟨sz, cs, rs⟩] = some true ∧ cs.length ≤ 1000 ∧ rs.length ≤ 1000 ∧ (validM sz cs rs = false ∨ (validM sz cs rs = true ∧
  fleuronref27_Same.f k sz cs rs sz cs rs=some true∧IsBytes (fileB sz cs rs)∧22≤(fileB sz cs rs).length∧openB (fileB sz cs rs)=(sz,cs,rs,0)∧openB ((fileB sz cs rs).take ((fileB sz cs rs).length-1))=(0,[],[],30) ∧
  ∀ (p:Nat) (b:Int),p<(fileB sz cs rs).length→0≤b→b<256→b≠(fileB sz cs rs).getD p 0→openB ((fileB sz cs rs).set p b)=(0,[],[],30)))))
set_option maxHeartbeats 16000000 in
set_option maxRecDepth 100000 in
theorem fleuronlaw27_MetricBack.calls (k : Nat) (sz : Int) (A1 : Option Addr) (c1 : Nat) (cs : List S41) (A2 : Option Addr) (c2 : Nat) (rs : List S46) (at_ more : Int) (w : World) (hr1 : Kd.C k41 w A1 cs.length cs) (hc1 : cs.length ≤ c1) (hr2 : Kd.C k46 w A2 rs.length rs) (hc2 : rs.length ≤ c2) (h : fleuronlaw27_MetricBack.P k sz cs rs at_ more) :
  Calls Try.prog 3 #[.agg #[.int .i64 sz,.slice A1 cs.length c1,.slice A2 rs.length c2],.int .i64 at_,.int .u8 more] w fun e w'=>e = .returned (.bool true)∧Below w.heap.size w w':=by
 have hu:=Try.underlying25
 have HR1:=aK hr1
 have HR2:=aK hr2
 have HC1:=aK hc1
 have HC2:=aK hc2
 obtain ⟨b1,hb1⟩ : ∃ b1,b1=w.heap.size:=⟨_,rfl⟩
 have HB:=aK (below_alloc (Below.refl w.heap.size w) (.cells #[.int .i64 sz,.slice A1 cs.length c1,.slice A2 rs.length c2] 25))
 have hbm:=blk_new w (.cells #[.int .i64 sz,.slice A1 cs.length c1,.slice A2 rs.length c2] 25)
 rw [← hb1] at hbm
 have HM:=aK hbm
 have HBE:=aK hb1
 obtain ⟨hmore,h⟩:=h
 have HMORE:=aK hmore
 have H:=aK h
 clear hr1 hr2 hc1 hc2 hbm hb1 h hmore
 go_enter Try.func3,Try.ntmps3
 go_upto_region 1 with (fail)
 rw [← HBE.out]
 generalize w.alloc (.cells #[.int .i64 sz,.slice A1 cs.length c1,.slice A2 rs.length c2] 25)=V at *
 have p0:=(blk_cell HM.out 0).trans rfl
 have p1:=(blk_cell HM.out 1).trans rfl
 have p2:=(blk_cell HM.out 2).trans rfl
 have HB1:=aK (below_alloc HB.out (.cells #[.int .i64 sz,.slice A1 cs.length c1,.slice A2 rs.length c2] 25))
 have HM1:=aK (blk_alloc HM.out (.cells #[.int .i64 sz,.slice A1 cs.length c1,.slice A2 rs.length c2] 25))
 have HF:Aside0 (Kd.C k25 (V.alloc (.cells #[.int .i64 sz,.slice A1 cs.length c1,.slice A2 rs.length c2] 25)) (some ⟨V.heap.size,0,none⟩) 1 [⟨sz,cs,rs⟩]):=⟨lit1_M (x:=⟨sz,cs,rs⟩) (Kd.C_below HR1.out HB1.out) HC1.out (Kd.C_below HR2.out HB1.out) HC2.out (blk_new V (.cells #[.int .i64 sz,.slice A1 cs.length c1,.slice A2 rs.length c2] 25))⟩
 rcases H.out with hf|⟨hf,hl1,hl2,h⟩
 ·have hc:=fleuronlaw27_few.calls k _ 1 [⟨sz,cs,rs⟩] false _ HF.out (Nat.le_refl 1) hf
  clear hf H
  go_wp2_with fail
  refine hc.mono ?_
  clear hc p0 p1 p2
  rintro e W1 ⟨rfl,hb⟩
  have HB2:=aK (below_step HB1.out hb)
  clear hb HB
  have HB:=HB2
  go_wp2_with fail
  refine (fleuronlaw27_awake.calls true _ rfl).mono ?_
  rintro e WZ ⟨rfl,hbz⟩
  go_wp2
  go_ret
  exact ⟨rfl,below_step HB.out hbz⟩
 have hc:=fleuronlaw27_few.calls k _ 1 [⟨sz,cs,rs⟩] true _ HF.out (Nat.le_refl 1) hf
 have H:=aK h
 have HL:=aK (And.intro hl1 hl2)
 clear hf h hl1 hl2
 go_wp2_with fail
 refine hc.mono ?_
 clear hc p0 p1 p2
 rintro e W1 ⟨rfl,hb⟩
 have HB2:=aK (below_step HB1.out hb)
 have HM2:=aK (blk_below HM1.out hb)
 clear hb HB1 HM1 HB HM HF
 have p0:=(blk_cell HM2.out 0).trans rfl
 have p1:=(blk_cell HM2.out 1).trans rfl
 have p2:=(blk_cell HM2.out 2).trans rfl
 have hc:=Pack_calls sz A1 c1 cs A2 c2 rs W1 (Kd.C_below HR1.out HB2.out) (Kd.C_below HR2.out HB2.out) (by have:=HL.out;omega) (by have:=HL.out;omega)
 rcases H.out with hv|⟨hv,hsame,hby,h22,ho1,ho2,ho3⟩
 ·have hpk:packM sz cs rs=([],2):=by rw [packM,hv];rfl
  rw [hpk] at hc
  have HV:=aK (fun V (h:Below w.heap.size w V)=>valid_calls sz A1 c1 cs A2 c2 rs V (Kd.C_below HR1.out h) (Kd.C_below HR2.out h) (by have:=HL.out;omega) (by have:=HL.out;omega))
  rw [hv] at HV
  clear hv hpk H
  go_wp2_with fail
  refine hc.mono ?_
  clear hc p0 p1 p2
  rintro e W2 ⟨v,rfl,hr,hb⟩
  obtain ⟨A3,c3,hv3⟩:=Kd.R_slice hr
  have hv3:v = .slice A3 0 c3:=hv3
  subst hv3
  have HB3:=aK (below_step HB2.out hb)
  have HM3:=aK (blk_below HM2.out hb)
  clear hb hr HB2 HM2
  have p0:=(blk_cell HM3.out 0).trans rfl
  have p1:=(blk_cell HM3.out 1).trans rfl
  have p2:=(blk_cell HM3.out 2).trans rfl
  go_wp2_with fail
  refine (HV.out _ HB3.out).mono ?_
  clear p0 p1 p2
  rintro e W3 ⟨rfl,hb⟩
  have HB:=aK (below_step HB3.out hb)
  clear hb
  go_wp2_with fail
  refine (fleuronlaw27_awake.calls true _ rfl).mono ?_
  rintro e WZ ⟨rfl,hbz⟩
  go_wp2
  go_ret
  exact ⟨rfl,below_step HB.out hbz⟩
 have hpk:packM sz cs rs=(fileB sz cs rs,0):=by rw [packM,hv,if_pos rfl]
 have hfl:=fileB_len sz cs rs HL.out.1 HL.out.2
 rw [hpk] at hc
 generalize fileB sz cs rs=F at *
 have HSA:=aK hsame
 have HBY:=aK hby
 have HN:=aK (And.intro h22 hfl)
 have HO1:=aK ho1
 have HO2:=aK ho2
 have HO3:=aK ho3
 clear hv hpk hfl hsame hby h22 ho1 ho2 ho3 H
 go_wp2_with fail
 refine hc.mono ?_
 clear hc p0 p1 p2
 rintro e W2 ⟨v,rfl,hr,hb⟩
 obtain ⟨A3,c3,rfl⟩:=Kd.R_slice hr
 have RF:=aK (Kd.R_lower hr HB2.out.size)
 have HB3:=aK (below_step HB2.out hb)
 have HM3:=aK (blk_below HM2.out hb)
 clear hb hr HB2 HM2
 have hq:=Kd.R_reads' RF.out
 have hc:=open_calls A3 c3 F W2 hq.2.2 hq.2.1 HBY.out (by have:=HN.out;omega)
 rw [HO1.out] at hc
 clear hq
 go_wp2_with fail
 refine hc.mono ?_
 clear hc
 rintro e W3 ⟨v1,v2,rfl,hr3,hr4,hb⟩
 obtain ⟨A4,c4,rfl⟩:=Kd.R_slice hr3
 obtain ⟨A5,c5,rfl⟩:=Kd.R_slice hr4
 have hq3:=Kd.R_reads' hr3
 have hq4:=Kd.R_reads' hr4
 have HB4:=aK (below_alloc (below_step HB3.out hb) (.cells #[.int .i64 sz,.slice A4 cs.length c4,.slice A5 rs.length c5] 25))
 have HM4:=aK (blk_alloc (blk_below HM3.out hb) (.cells #[.int .i64 sz,.slice A4 cs.length c4,.slice A5 rs.length c5] 25))
 have HX4:=aK (blk_new W3 (.cells #[.int .i64 sz,.slice A4 cs.length c4,.slice A5 rs.length c5] 25))
 have RF4:=aK (Kd.R_alloc (Kd.R_below RF.out hb) (.cells #[.int .i64 sz,.slice A4 cs.length c4,.slice A5 rs.length c5] 25))
 have HQ3:=aK (And.intro (Kd.C_below hq3.2.2 (below_alloc (Below.refl _ _) (.cells #[.int .i64 sz,.slice A4 cs.length c4,.slice A5 rs.length c5] 25))) hq3.2.1)
 have HQ4:=aK (And.intro (Kd.C_below hq4.2.2 (below_alloc (Below.refl _ _) (.cells #[.int .i64 sz,.slice A4 cs.length c4,.slice A5 rs.length c5] 25))) hq4.2.1)
 clear hb HB3 HM3 hr3 hr4 hq3 hq4 RF
 go_upto_region 7 with (fail)
 generalize W3.heap.size=b3 at *
 generalize W3.alloc (.cells #[.int .i64 sz,.slice A4 cs.length c4,.slice A5 rs.length c5] 25)=W4 at *
 have p0:=(blk_cell HM4.out 0).trans rfl
 have p1:=(blk_cell HM4.out 1).trans rfl
 have p2:=(blk_cell HM4.out 2).trans rfl
 have q0:=(blk_cell HX4.out 0).trans rfl
 have q1:=(blk_cell HX4.out 1).trans rfl
 have q2:=(blk_cell HX4.out 2).trans rfl
 have hc:=fleuronref27_Same.calls k sz A1 c1 cs A2 c2 rs sz A4 c4 cs A5 c5 rs true W4 (Kd.C_below HR1.out HB4.out) HC1.out (Kd.C_below HR2.out HB4.out) HC2.out HQ3.out.1 HQ3.out.2 HQ4.out.1 HQ4.out.2 HSA.out
 go_wp2_with fail
 refine hc.mono ?_
 clear hc p0 p1 p2 q0 q1 q2
 rintro e W5 ⟨rfl,hb⟩
 have HB5:=aK (below_step HB4.out hb)
 have RF5:=aK (Kd.R_below RF4.out hb)
 clear hb HB4 HM4 HX4 HQ3 HQ4 RF4
 have hj:wrap64 ((F.length:Int)-1)=((F.length-1:Nat):Int):=by have:=HN.out;unfold wrap64;omega
 obtain ⟨i0,hi0,_,hsz,_⟩:=info_parts info5
 have hq:=Kd.R_reads' RF5.out
 have hcut:=cut_two (P:=Try.prog) 28 5 .i64 .i64 Try.underlying28 hi0 A3 F.length c3 ((F.length-1:Nat):Int) (by omega) (by omega) hq.2.1
 rw [Int.toNat_natCast] at hcut
 have htl:(F.take (F.length-1)).length=F.length-1:=by rw [List.length_take];omega
 have hct:=Kd.C_take (m:=F.length-1) hq.2.2 (by omega)
 have hc:=open_calls A3 (F.length-1) (F.take (F.length-1)) W5 hct (by rw [htl];exact Nat.le_refl _) (fun c hc=>HBY.out c (List.mem_of_mem_take hc)) (by have:=HN.out;rw [htl];omega)
 rw [HO2.out,htl] at hc
 have HJJ:Aside0 (1≤F.length):=⟨by have:=HN.out;omega⟩
 clear hq hct htl hi0 hsz
 obtain ⟨nn,hnn⟩ : ∃ nn,nn=F.length-1:=⟨_,rfl⟩
 rw [← hnn] at hc hcut hj
 have HNN:=aK hnn
 clear hnn
 go_wp2_with fail
 refine hc.mono ?_
 clear hc hcut hj
 rintro e W6 ⟨v1,v2,rfl,hr3,hr4,hb⟩
 obtain ⟨A6,c6,hv6⟩:=Kd.R_slice hr3
 obtain ⟨A7,c7,hv7⟩:=Kd.R_slice hr4
 have hv6:v1 = .slice A6 0 c6:=hv6
 have hv7:v2 = .slice A7 0 c7:=hv7
 subst hv6 hv7
 have HB6:=aK (below_alloc (below_step HB5.out hb) (.cells #[.int .i64 0,.slice A6 0 c6,.slice A7 0 c7] 25))
 have RF6:=aK (Kd.R_alloc (Kd.R_below RF5.out hb) (.cells #[.int .i64 0,.slice A6 0 c6,.slice A7 0 c7] 25))
 clear hb hr3 hr4 HB5 RF5
 go_upto_region 10 with (fail)
 generalize W6.alloc (.cells #[.int .i64 0,.slice A6 0 c6,.slice A7 0 c7] 25)=W7 at *
 go_upto_region 11 with (first|((with_reducible refine gate_dst (N:=68) rfl ?_);refine Kd.R_lit (Kd.int .u8) _ 5 ?hg (N:=68) ?hd (xs:=([]:List Int)) (inner:=[]) (ok:=fun _=>True) (okp:=fun _=>True) ?hr ?hp (fun _ hk=>hk) trivial (Below.refl _ _) (Nat.le_refl _) (by simp) ?_;(case hd=>rfl);(case hg=>rfl);(case hr=>first|(go_simp;done)|(go_simp;rfl));(case hp=>exact (Reps.none _ _));intro v8 W8 ho hb hg_ hn_;have RL:=aK (Kd.R_lower ho HB6.out.size);have HB8:=aK (below_step HB6.out hb);have RF8:=aK (Kd.R_below RF6.out hb);clear ho hb hg_ hn_)|((with_reducible refine gate_builtin (b:=.append) (xs:=#[.tmp 68,.tmp 69]) rfl ?_);at_builtin;refine Kd.R_append_rows (Kd.int .u8) (w0:=w) w.heap.size rfl (.tmp 68) (.tmp 69) 28 5 (.int .u8 0) 1 rfl Try.underlying28 info5 rfl (by decide) (by omega) v8 [] F A3 _ c3 (fun _=>True) (fun _=>False) rfl rfl RL.out (Kd.R_reads' RF8.out).2.2 (fun _ _ h=>h) (fun _ h=>h.elim) (fun _ _=>trivial) HB8.out HB8.out.size (by have:=HN.out;simp only [List.length_nil];omega) ?_;intro v9 W9 ho hb hg hat;have RC:=aK (show Kd.R (Kd.int .u8) 5 W9 w.heap.size (fun _=>True) v9 F from ho);have HB9:=aK hb;clear ho hb hg hat))
 obtain ⟨g9,cap9,he9,hbg,-,-⟩:=Kd.R_form RC.out (by have:=HN.out;omega)
 have HBG:=aK hbg
 clear hbg
 subst he9
 clear RL RF8 HB8 RF6 HB6
 have hF:=HN.out
 have hu64 : ∀ n:Int,IntKind.u64.wrap n=n % 18446744073709551616:=fun _=>rfl
 have hlenw:IntKind.u64.wrap (F.length:Int)=(F.length:Int):=by rw [hu64];omega
 obtain ⟨j,hj,hjl⟩ : ∃ j:Nat,wrap64 ((IntKind.u64.wrap at_).tmod (F.length:Int))=(j:Int)∧j<F.length:=by
  have h0:0≤IntKind.u64.wrap at_:=by rw [hu64];omega
  generalize IntKind.u64.wrap at_=a at *
  have h1:=Int.tmod_nonneg (F.length:Int) h0
  have h2:=Int.tmod_lt_of_pos a (b:=(F.length:Int)) (by omega)
  generalize a.tmod (F.length:Int)=m at *
  exact ⟨m.toNat,by unfold wrap64;omega,by omega⟩
 have hji:(j:Int)<(F.length:Int):=by omega
 have hj0:(0:Int)≤(j:Int):=by omega
 have hnz : ¬ (F.length:Int)=0:=by omega
 have hnzb:((F.length:Int) == 0)=false:=by simpa using hnz
 have hnz2 : ¬ F.length=0:=by omega
 obtain ⟨f0,f1⟩:=Kd.R_celln (0:Int) RC.out (j:Int) hj0 hji
 simp only [Int.toNat_natCast] at f0 f1
 have HJL:=aK hjl
 have hcj:rdOf (0:Int) F (j:Int)=F.getD j 0:=rfl
 rw [hcj] at f0
 have HCJ:Aside0 (0≤F.getD j 0∧F.getD j 0<256):=⟨by rw [List.getD_eq_getElem?_getD,List.getElem?_eq_getElem hjl];exact HBY.out _ (List.getElem_mem hjl)⟩
 generalize hcv:F.getD j 0=cv at *
 have HCV:=aK hcv
 clear hu64 hcj hF hjl hcv
 go_upto_region 12 with (fail)
 have hm0:=Int.tmod_nonneg (255:Int) (show 0≤more from HMORE.out.1)
 have hm1:=Int.tmod_lt_of_pos more (b:=(255:Int)) (by omega)
 obtain ⟨B,hB⟩ : ∃ B,B=(cv+(1+more.tmod 255)) % 256:=⟨_,rfl⟩
 have HBR:Aside0 ((0≤B∧B<256)∧B≠F.getD j 0):=⟨by rw [HCV.out,hB];have:=HCJ.out;omega⟩
 have R10:=Kd.R_putn RC.out (j:Int) B
 rw [Int.toNat_natCast] at R10
 have HB10:=aK (below_set HB9.out HBG.out:Below w.heap.size w (W9.setCell ⟨g9,j,none⟩ (.int .u8 B)))
 have R10:=aK (show Kd.R (Kd.int .u8) 5 (W9.setCell ⟨g9,j,none⟩ (.int .u8 B)) w.heap.size (fun _=>True) (.slice (some ⟨g9,0,none⟩) F.length cap9) (F.set j B) from R10)
 rw [← hB]
 clear f0 f1 hm0 hm1 hB hj hji hj0 hnz hnzb hnz2 hlenw RC HB9
 generalize W9.setCell ⟨g9,j,none⟩ (.int .u8 B)=W10 at *
 have hsl:(F.set j B).length=F.length:=List.length_set ..
 have hq:=Kd.R_reads' R10.out
 have hby2:IsBytes (F.set j B):=fun c hc=>by
  rcases List.mem_or_eq_of_mem_set hc with h|h
  ·exact HBY.out c h
  ·rw [h];exact HBR.out.1
 have hc:=open_calls (some ⟨g9,0,none⟩) cap9 (F.set j B) W10 hq.2.2 (by rw [hsl];exact hq.2.1) hby2 (by rw [hsl];have:=HN.out;omega)
 rw [HO3.out j B HJL.out HBR.out.1.1 HBR.out.1.2 HBR.out.2,hsl] at hc
 clear hsl hq hby2
 go_wp2_with fail
 refine hc.mono ?_
 clear hc
 rintro e W11 ⟨v1,v2,rfl,hr3,hr4,hb⟩
 obtain ⟨A8,c8,hv8⟩:=Kd.R_slice hr3
 obtain ⟨A9,c9,hv9⟩:=Kd.R_slice hr4
 have hv8:v1 = .slice A8 0 c8:=hv8
 have hv9:v2 = .slice A9 0 c9:=hv9
 subst hv8 hv9
 have HB:=aK (below_alloc (below_step HB10.out hb) (.cells #[.int .i64 0,.slice A8 0 c8,.slice A9 0 c9] 25))
 clear hb hr3 hr4 HB10
 go_upto_region 13 with (fail)
 generalize W11.alloc (.cells #[.int .i64 0,.slice A8 0 c8,.slice A9 0 c9] 25)=W12 at *
 go_wp2_with fail
 refine (fleuronlaw27_awake.calls true _ rfl).mono ?_
 rintro e WZ ⟨rfl,hbz⟩
 go_wp2
 go_ret
 exact ⟨rfl,below_step HB.out hbz⟩
end Go.Proofs.Ytoemkemmiikhlaa.PC1
