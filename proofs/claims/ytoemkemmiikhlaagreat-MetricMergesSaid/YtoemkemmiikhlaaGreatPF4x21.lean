import Derived.Test.YtoemkemmiikhlaaGreatPF4x0
import Derived.Test.YtoemkemmiikhlaaGreatPF4x1
import Derived.Test.YtoemkemmiikhlaaGreatPF4x3
import Derived.Test.YtoemkemmiikhlaaGreatPF4x7
import Derived.Test.YtoemkemmiikhlaaGreatPF4x8
import Derived.Test.YtoemkemmiikhlaaGreatPF4x10
import Derived.Test.YtoemkemmiikhlaaGreatPF4x15
import Derived.Test.YtoemkemmiikhlaaGreatPF4x16
import Derived.Test.YtoemkemmiikhlaaGreatPF4x17
import Derived.Test.YtoemkemmiikhlaaGreatPF4x18
import Derived.Test.YtoemkemmiikhlaaGreatPF4x19
import Derived.Test.YtoemkemmiikhlaaGreatPF4x20
set_option maxRecDepth 100000
namespace Go.Proofs.YtoemkemmiikhlaaGreat.PF4
open Go.RowKit Go.Proofs.YtoemkemmiikhlaaGreatW.PrintWords Go.Proofs.YtoemkemmiikhlaaGreatW.PrintLast Go.Proofs.YtoemkemmiikhlaaGreatW.PrintMore
attribute [local go_sem] max2_int min2_int max_two min_two max_three min_three max_four min_four
set_option linter.unusedVariables false
set_option linter.unusedSimpArgs false
theorem infoGm:(Tryz.prog.info? 42).map (fun i=>(i.zero,i.size,i.bytes))=some (some (.agg #[(.int .i64 0),(.int .i64 0),(.int .i64 0),(.int .i64 0),.slice none 0 0]),5,56):=by kernel_rfl
def glOf (x:S50):GlyphV:=⟨x.f0,x.f1,x.f2,x.f3,none,0,0⟩
def hitC (cb:List S50) (x:S50):Bool:=(findL cb x.f0).2.2.2.2 == 0
def hitR (rb:List S45) (x:S45):Bool:=(forL rb x.f0 x.f1).2.2.2.2
def mergeW (sz:Int) (ca:List S50) (ra:List S45) (sz2:Int) (cb:List S50) (rb:List S45):Int×List S50×List S45×Int :=
 if validM sz ca ra && validM sz2 cb rb then (if sz=sz2 then (if ca.any (hitC cb) || ra.any (hitR rb) then (0,[],[],14) else ofR sz (ca++cb) (ra++rb)) else (0,[],[],5)) else (0,[],[],2)
theorem any_next {α:Type} {p:α→Bool} {l:List α} {i:Nat} (h:i<l.length) (h0:(l.take i).any p=false) (h1:p l[i]=false):(l.take (i+1)).any p=false:=by
 rw [List.take_succ_eq_append_getElem h,List.any_append,h0]
 simp [h1]
theorem any_hit {α:Type} {p:α→Bool} {l:List α} {i:Nat} (h:i<l.length) (h1:p l[i]=true):l.any p=true:=List.any_eq_true.mpr ⟨_,List.getElem_mem h,h1⟩
structure RmS (w W:World) (b2 b3 b4:Nat) (va vb:Array Value):Prop where
 res:ResS w W b4
 ba:W.heap[b2]?=some (.cells va 25 (0,0))
 bb:W.heap[b3]?=some (.cells vb 25 (0,0))
theorem RmS.ofBelow {w W W':World} {b2 b3 b4:Nat} {va vb:Array Value} (h:RmS w W b2 b3 b4 va vb) (hb:Below W.heap.size W W'):RmS w W' b2 b3 b4 va vb:=⟨h.res.ofBelow hb,blk_below h.ba hb,blk_below h.bb hb⟩
set_option maxHeartbeats 16000000 in
theorem refMerge_calls (sz : Int) (A1 : Option Addr) (c1 : Nat) (ca : List S50) (A2 : Option Addr) (c2 : Nat) (ra : List S45) (sz2 : Int) (B1 : Option Addr) (d1 : Nat) (cb : List S50) (B2 : Option Addr) (d2 : Nat) (rb : List S45) (w : World)
  (hr1:Kd.C k50 w A1 ca.length ca) (hc1:ca.length≤c1) (hr2:Kd.C k45 w A2 ra.length ra) (hc2:ra.length≤c2) (hr3:Kd.C k50 w B1 cb.length cb) (hc3:cb.length≤d1) (hr4:Kd.C k45 w B2 rb.length rb) (hc4:rb.length≤d2)
  (hl1:ca.length≤1000) (hl2:ra.length≤1000) (hl3:cb.length≤1000) (hl4:rb.length≤1000) :
  Calls Tryz.prog 29 #[.agg #[.int .i64 sz,.slice A1 ca.length c1,.slice A2 ra.length c2],.agg #[.int .i64 sz2,.slice B1 cb.length d1,.slice B2 rb.length d2]] w fun e w'=>∃ v1 v2,e = .returned (.tuple #[.agg #[.int .i64 (mergeW sz ca ra sz2 cb rb).1,v1,v2],.int .i64 (mergeW sz ca ra sz2 cb rb).2.2.2])∧Kd.R k50 50 w' w.heap.size (fun _=>True) v1 (mergeW sz ca ra sz2 cb rb).2.1∧Kd.R k45 45 w' w.heap.size (fun _=>True) v2 (mergeW sz ca ra sz2 cb rb).2.2.1∧Below w.heap.size w w':=by
 have hu:=Tryz.underlying25
 have hu50:=Tryz.underlying50
 have hu45:=Tryz.underlying45
 have hu42:=Tryz.underlying42
 have HR1:=aK hr1
 have HR2:=aK hr2
 have HR3:=aK hr3
 have HR4:=aK hr4
 have HLN:=aK (And.intro hl1 (And.intro hl2 (And.intro hl3 hl4)))
 have hca:=fun V (hv:Below w.heap.size w V)=>fleuronref27_Valid.calls 1 sz A1 c1 ca A2 c2 ra (validM sz ca ra) V (Kd.C_below hr1 hv) hc1 (Kd.C_below hr2 hv) hc2 (by unfold fleuronref27_Valid.f;rw [if_pos ⟨by omega,by omega⟩])
 have hcb:=fun V (hv:Below w.heap.size w V)=>fleuronref27_Valid.calls 1 sz2 B1 d1 cb B2 d2 rb (validM sz2 cb rb) V (Kd.C_below hr3 hv) hc3 (Kd.C_below hr4 hv) hc4 (by unfold fleuronref27_Valid.f;rw [if_pos ⟨by omega,by omega⟩])
 have HFI:=aK (fun V n (hv:Below w.heap.size w V) (hvm:validM sz2 cb rb=true)=>fleuronref27_Find.calls 1 sz2 B1 d1 cb B2 d2 rb n _ _ _ _ _ V (Kd.C_below hr3 hv) hc3 (Kd.C_below hr4 hv) hc4 (show fleuronref27_Find.f 1 sz2 cb rb n=some ((findL cb n).1,(findL cb n).2.1,(findL cb n).2.2.1,(findL cb n).2.2.2.1,(findL cb n).2.2.2.2) by unfold fleuronref27_Find.f;rw [if_pos ⟨by omega,by omega⟩,hvm,if_pos rfl]))
 have HFO:=aK (fun V p q (hv:Below w.heap.size w V)=>fleuronref27_For.calls 1 B2 d2 rb p q _ _ _ _ _ V (Kd.C_below hr4 hv) hc4 (show fleuronref27_For.f 1 rb p q=some ((forL rb p q).1,(forL rb p q).2.1,(forL rb p q).2.2.1,(forL rb p q).2.2.2.1,(forL rb p q).2.2.2.2) by unfold fleuronref27_For.f;rw [if_pos (by omega)]))
 obtain ⟨b2,hb2⟩ : ∃ b2,b2=w.heap.size:=⟨_,rfl⟩
 obtain ⟨b3,hb3⟩ : ∃ b3,b3=w.heap.size+1:=⟨_,rfl⟩
 obtain ⟨b4,hb4⟩ : ∃ b4,b4=w.heap.size+1+1:=⟨_,rfl⟩
 have I0:Aside0 (RmS w (((w.alloc (.cells #[.int .i64 sz,.slice A1 ca.length c1,.slice A2 ra.length c2] 25)).alloc (.cells #[.int .i64 sz2,.slice B1 cb.length d1,.slice B2 rb.length d2] 25)).alloc (.cells #[.int .i64 0,.slice none 0 0,.slice none 0 0] 25)) b2 b3 b4 #[.int .i64 sz,.slice A1 ca.length c1,.slice A2 ra.length c2] #[.int .i64 sz2,.slice B1 cb.length d1,.slice B2 rb.length d2]):=⟨by
  have h1:=blk_new ((w.alloc (.cells #[.int .i64 sz,.slice A1 ca.length c1,.slice A2 ra.length c2] 25)).alloc (.cells #[.int .i64 sz2,.slice B1 cb.length d1,.slice B2 rb.length d2] 25)) (.cells #[.int .i64 0,.slice none 0 0,.slice none 0 0] 25)
  simp only [World.size_alloc] at h1
  rw [← hb4] at h1
  have h2:=blk_new (w.alloc (.cells #[.int .i64 sz,.slice A1 ca.length c1,.slice A2 ra.length c2] 25)) (.cells #[.int .i64 sz2,.slice B1 cb.length d1,.slice B2 rb.length d2] 25)
  simp only [World.size_alloc] at h2
  rw [← hb3] at h2
  exact ⟨⟨below_alloc (below_alloc (below_alloc (Below.refl w.heap.size w) _) _) _,by omega,h1⟩,by rw [hb2];exact blk_alloc (blk_alloc (blk_new w _) _) _,blk_alloc h2 _⟩⟩
 obtain ⟨r,hr⟩ : ∃ r,r=mergeW sz ca ra sz2 cb rb:=⟨_,rfl⟩
 rw [← hr]
 have HF:=aK hr
 have HBE:=aK (And.intro hb2 (And.intro hb3 hb4))
 have HCA:=aK hca
 have HCB:=aK hcb
 clear hr1 hr2 hr3 hr4 hl1 hl2 hl3 hl4 hc1 hc2 hc3 hc4 hr hb2 hb3 hb4 hca hcb
 go_enter Tryz.func29,Tryz.ntmps29
 go_upto_region 1 with (fail)
 rw [← HBE.out.2.2,← HBE.out.2.1,← HBE.out.1]
 generalize ((w.alloc (.cells #[.int .i64 sz,.slice A1 ca.length c1,.slice A2 ra.length c2] 25)).alloc (.cells #[.int .i64 sz2,.slice B1 cb.length d1,.slice B2 rb.length d2] 25)).alloc (.cells #[.int .i64 0,.slice none 0 0,.slice none 0 0] 25)=V at *
 have p0:=(blk_cell I0.out.ba 0).trans rfl
 have p1:=(blk_cell I0.out.ba 1).trans rfl
 have p2:=(blk_cell I0.out.ba 2).trans rfl
 have n0:=(blk_cell I0.out.bb 0).trans rfl
 have n1:=(blk_cell I0.out.bb 1).trans rfl
 have n2:=(blk_cell I0.out.bb 2).trans rfl
 have hc:=HCA.out V I0.out.res.below
 cases hv:validM sz ca ra with
 | false =>
  have HO:Aside0 (r=(0,[],[],2)):=⟨by rw [HF.out,mergeW,hv];rfl⟩
  rw [hv] at hc
  clear hv HF
  go_wp2_with (first|fail)
  refine hc.mono ?_
  clear hc p0 p1 p2 n0 n1 n2
  rintro e W1 ⟨rfl,hb1⟩
  have I1:=aK (I0.out.res.ofBelow hb1)
  clear hb1 I0
  have q0:=blk_frozen I1.out.res 0
  have q1:=blk_frozen I1.out.res 1
  have q2:=blk_frozen I1.out.res 2
  have q3:=(blk_cell I1.out.res 0).trans rfl
  have q4:=(blk_cell I1.out.res 1).trans rfl
  have q5:=(blk_cell I1.out.res 2).trans rfl
  have X3:=aK (blk_put (blk_put (blk_put I1.out.res 0 (.int .i64 0) rfl) 1 (.slice none 0 0) rfl) 2 (.slice none 0 0) rfl)
  go_wp2
  refine bodyPost_ret (results_ct rfl _ _ b4 25 #[.int .i64 0,.slice none 0 0,.slice none 0 0] (0,0) _ rfl X3.out Tryz.underlying25 rfl (by kernel_rfl)) rfl ?_
  rw [HO.out]
  exact ⟨.slice none 0 0,.slice none 0 0,rfl,Kd.R_nil _ _ _ _ _,Kd.R_nil _ _ _ _ _,below_set (below_set (below_set I1.out.below I1.out.le) I1.out.le) I1.out.le⟩
 | true =>
 rw [hv] at hc
 have HF1:Aside0 (r=if validM sz2 cb rb then (if sz=sz2 then (if ca.any (hitC cb) || ra.any (hitR rb) then (0,[],[],14) else ofR sz (ca++cb) (ra++rb)) else (0,[],[],5)) else (0,[],[],2)):=⟨by rw [HF.out,mergeW,hv,Bool.true_and]⟩
 clear hv HF
 go_wp2_with (first|fail)
 refine hc.mono ?_
 clear hc p0 p1 p2 n0 n1 n2
 rintro e W1 ⟨rfl,hb1⟩
 have I1:=aK (I0.out.ofBelow hb1)
 clear hb1 I0
 have p0:=(blk_cell I1.out.ba 0).trans rfl
 have n0:=(blk_cell I1.out.bb 0).trans rfl
 have n1:=(blk_cell I1.out.bb 1).trans rfl
 have n2:=(blk_cell I1.out.bb 2).trans rfl
 have hc:=HCB.out W1 I1.out.res.below
 cases hv:validM sz2 cb rb with
 | false =>
  have HO:Aside0 (r=(0,[],[],2)):=⟨by rw [HF1.out,hv];rfl⟩
  rw [hv] at hc
  clear hv HF1
  go_wp2_with (first|fail)
  refine hc.mono ?_
  clear hc p0 n0 n1 n2
  rintro e W2 ⟨rfl,hb1⟩
  have I2:=aK (I1.out.res.ofBelow hb1)
  clear hb1 I1
  have q0:=blk_frozen I2.out.res 0
  have q1:=blk_frozen I2.out.res 1
  have q2:=blk_frozen I2.out.res 2
  have q3:=(blk_cell I2.out.res 0).trans rfl
  have q4:=(blk_cell I2.out.res 1).trans rfl
  have q5:=(blk_cell I2.out.res 2).trans rfl
  have X3:=aK (blk_put (blk_put (blk_put I2.out.res 0 (.int .i64 0) rfl) 1 (.slice none 0 0) rfl) 2 (.slice none 0 0) rfl)
  go_wp2
  refine bodyPost_ret (results_ct rfl _ _ b4 25 #[.int .i64 0,.slice none 0 0,.slice none 0 0] (0,0) _ rfl X3.out Tryz.underlying25 rfl (by kernel_rfl)) rfl ?_
  rw [HO.out]
  exact ⟨.slice none 0 0,.slice none 0 0,rfl,Kd.R_nil _ _ _ _ _,Kd.R_nil _ _ _ _ _,below_set (below_set (below_set I2.out.below I2.out.le) I2.out.le) I2.out.le⟩
 | true =>
 rw [hv] at hc
 have HF2:Aside0 (r=if sz=sz2 then (if ca.any (hitC cb) || ra.any (hitR rb) then (0,[],[],14) else ofR sz (ca++cb) (ra++rb)) else (0,[],[],5)):=⟨by rw [HF1.out,hv,if_pos rfl]⟩
 have HVB:=aK hv
 clear hv HF1
 go_wp2_with (first|fail)
 refine hc.mono ?_
 clear hc p0 n0 n1 n2
 rintro e W2 ⟨rfl,hb1⟩
 have I2:=aK (I1.out.ofBelow hb1)
 clear hb1 I1
 have p0:=(blk_cell I2.out.ba 0).trans rfl
 have n0:=(blk_cell I2.out.bb 0).trans rfl
 by_cases hs:sz=sz2
 case neg =>
  have e1:(sz == sz2)=false:=beq_eq_false_iff_ne.mpr hs
  have e2:(sz != sz2)=true:=bne_iff_ne.mpr hs
  have HO:Aside0 (r=(0,[],[],5)):=⟨by rw [HF2.out,if_neg hs]⟩
  have I3:=aK I2.out.res
  clear hs HF2 I2
  have q0:=blk_frozen I3.out.res 0
  have q1:=blk_frozen I3.out.res 1
  have q2:=blk_frozen I3.out.res 2
  have q3:=(blk_cell I3.out.res 0).trans rfl
  have q4:=(blk_cell I3.out.res 1).trans rfl
  have q5:=(blk_cell I3.out.res 2).trans rfl
  have X3:=aK (blk_put (blk_put (blk_put I3.out.res 0 (.int .i64 0) rfl) 1 (.slice none 0 0) rfl) 2 (.slice none 0 0) rfl)
  go_wp2
  refine bodyPost_ret (results_ct rfl _ _ b4 25 #[.int .i64 0,.slice none 0 0,.slice none 0 0] (0,0) _ rfl X3.out Tryz.underlying25 rfl (by kernel_rfl)) rfl ?_
  rw [HO.out]
  exact ⟨.slice none 0 0,.slice none 0 0,rfl,Kd.R_nil _ _ _ _ _,Kd.R_nil _ _ _ _ _,below_set (below_set (below_set I3.out.below I3.out.le) I3.out.le) I3.out.le⟩
 subst hs
 have e1:(sz == sz)=true:=beq_self_eq_true sz
 have e2:(sz != sz)=false:=bne_self_eq_false sz
 have HF3:Aside0 (r=if ca.any (hitC cb) || ra.any (hitR rb) then (0,[],[],14) else ofR sz (ca++cb) (ra++rb)):=⟨by rw [HF2.out,if_pos rfl]⟩
 clear HF2
 go_upto_region 6 with (fail)
 clear p0 n0 e1 e2
 have B0:=below_step I2.out.res.below (below_drew1 (Below.refl W2.heap.size W2))
 have ID:=aK (I2.out.ofBelow (below_drew1 (Below.refl W2.heap.size W2)))
 have HRA:=aK (Kd.C_below HR1.out B0)
 have HRB:=aK (Kd.C_below HR3.out B0)
 have P0:=aK ((blk_cell ID.out.ba 1).trans rfl)
 have P1:=aK ((blk_cell ID.out.bb 1).trans rfl)
 clear B0 I2
 refine start_ (n:=9) (S:=fun w'=>w'.cell? ⟨b2,1,none⟩=some (.slice A1 ca.length c1)∧w'.cell? ⟨b3,1,none⟩=some (.slice B1 cb.length d1)) (ds:=[]) #[false,false,false,false,false,false,false,false,false] (by kernel_rfl) rfl rfl ⟨P0.out,P1.out⟩ (fun hHeld=>?_)
 refine pu 1 (some 36) ?_ rfl rfl (by kernel_rfl) (fun _ _ _ h=>h) (.inl ⟨by rfl,?_⟩) ?_ ?_ ?_;rotate_left;intro w';go_simp;with_reducible rfl;rotate_left;simp only [nS];rfl
 refine pu 4 (some 39) ?_ rfl rfl (by kernel_rfl) (fun _ _ _ h=>h) (.inl ⟨by rfl,?_⟩) ?_ ?_ ?_;rotate_left;intro w';go_simp;with_reducible rfl;rotate_left;simp only [nS];rfl
 refine pu 8 (some 43) ?_ rfl rfl (by kernel_rfl) (fun _ _ _ h=>h) (.inl ⟨by rfl,?_⟩) ?_ ?_ ?_;rotate_left;intro w';go_simp;with_reducible rfl;rotate_left;simp only [nS];rfl
 refine tk 2 (some 37) ?_ rfl rfl (by kernel_rfl) (fun _ _ _ h=>h) (.inl ⟨by rfl,?_⟩) hHeld ?_ ?_ ?_;rotate_left;rintro w' ⟨s0,s1⟩;go_simp;with_reducible rfl;rotate_left;simp only [nS];rfl
 refine tk 5 (some 40) ?_ rfl rfl (by kernel_rfl) (fun _ _ _ h=>h) (.inl ⟨by rfl,?_⟩) hHeld ?_ ?_ ?_;rotate_left;rintro w' ⟨s0,s1⟩;go_simp;with_reducible rfl;rotate_left;simp only [nS];rfl
 refine one_ (i:=0) (N:=some 35) #[true,true,true,false,true,true,false,false,true] rfl rfl (by kernel_rfl) (by decide) (fun K hK=>?_)
 refine Kd.R_lit_step k50 _ 50 ?hg (N:=35) ?hd (xs:=[]) (inner:=[]) (ok:=fun _=>True) (okp:=fun _=>False) ?hr ?hp (fun _ _=>trivial) trivial (Below.refl _ _) (Nat.le_refl _) (by simp) ?_
 case hd=>rfl
 case hg=>rfl
 case hr=>first|(go_simp;done)|(go_simp;rfl)
 case hp=>exact Reps.none _ _
 intro v60 w7 ho7 hb7 hg7 hat7
 have HO7:=aK ho7
 have HB7:=aK hb7
 clear ho7 hb7 hg7 hat7
 refine hK.out _ _ ⟨(HB7.out.cell (World.block_lt_of_cell? _ _ P0.out)).trans P0.out,(HB7.out.cell (World.block_lt_of_cell? _ _ P1.out)).trans P1.out⟩ (fun hHeld=>?_)
 clear hK K
 refine norm_ (a':=?_) ?_ ?_;rotate_left;show Act.put _ (some 35) _=_;simp only [nS];rfl
 refine one_ (i:=3) (N:=some 38) #[true,true,true,true,true,true,false,false,true] rfl rfl (by kernel_rfl) (by decide) (fun K hK=>?_)
 refine Kd.R_append_rows_step k50 _ (by rfl) (.tmp 35) (.tmp 37) 22 50 (.agg #[.int .i64 0,.int .i64 0,.int .i64 0,.int .i64 0]) 32 rfl Tryz.underlying22 info50 rfl (by decide) (by omega) v60 [] ca A1 _ c1 (fun _=>True) (fun _=>False) rfl rfl HO7.out (Kd.C_below HRA.out HB7.out) (fun y cs h=>flatC _ y cs h _ _ _) (fun _ h=>h.elim) (fun _ _=>trivial) HB7.out HB7.out.size ?aL ?_
 case aL=>have:=HLN.out;simp only [List.length_nil];omega
 intro v61 w8 ho8 hb8 hg8 hat8
 have HO8:=aK ho8
 have HB8:=aK hb8
 clear ho8 hb8 hg8 hat8 HO7 HB7
 refine hK.out _ _ ⟨(HB8.out.cell (World.block_lt_of_cell? _ _ P0.out)).trans P0.out,(HB8.out.cell (World.block_lt_of_cell? _ _ P1.out)).trans P1.out⟩ (fun hHeld=>?_)
 clear hK K
 refine norm_ (a':=?_) ?_ ?_;rotate_left;show Act.put _ (some 38) _=_;simp only [nS];rfl
 refine one_ (i:=6) (N:=some 41) #[true,true,true,true,true,true,true,false,true] rfl rfl (by kernel_rfl) (by decide) (fun K hK=>?_)
 refine Kd.R_append_rows_step k50 _ (by rfl) (.tmp 38) (.tmp 40) 22 50 (.agg #[.int .i64 0,.int .i64 0,.int .i64 0,.int .i64 0]) 32 rfl Tryz.underlying22 info50 rfl (by decide) (by omega) v61 ([]++ca) cb B1 _ d1 (fun _=>True) (fun _=>False) rfl rfl HO8.out (Kd.C_below HRB.out HB8.out) (fun y cs h=>flatC _ y cs h _ _ _) (fun _ h=>h.elim) (fun _ _=>trivial) HB8.out HB8.out.size ?aL ?_
 case aL=>have:=HLN.out;simp only [List.nil_append];omega
 intro v62 w9 ho9 hb9 hg9 hat9
 have HO9:=aK ho9
 have HB9:=aK hb9
 clear ho9 hb9 hg9 hat9 HO8 HB8
 simp only [List.nil_append] at HO9
 obtain ⟨A61,c61,rfl⟩:=Kd.R_slice HO9.out
 refine hK.out _ _ ⟨(HB9.out.cell (World.block_lt_of_cell? _ _ P0.out)).trans P0.out,(HB9.out.cell (World.block_lt_of_cell? _ _ P1.out)).trans P1.out⟩ (fun hHeld=>?_)
 clear hK K
 refine norm_ (a':=?_) ?_ ?_;rotate_left;show Act.put _ (some 41) _=_;simp only [nS];rfl
 refine pu 7 (some 42) ?_ rfl rfl (by kernel_rfl) (fun _ _ _ h=>h) (.inl ⟨by rfl,?_⟩) ?_ ?_ ?_;rotate_left;intro w';go_simp;with_reducible rfl;rotate_left;simp only [nS];rfl
 refine done_ (by kernel_rfl) ?_
 have HQ:=aK (Kd.R_reads' HO9.out)
 have I4:=aK (ID.out.ofBelow HB9.out)
 clear ID HB9 HO9
 obtain ⟨xs,hxs⟩ : ∃ l,l=ca++cb:=⟨_,rfl⟩
 rw [← hxs] at HQ
 rw [← hxs]
 have HXS:=aK hxs
 have HXC:Aside0 ((xs.length:Int)=(ca.length:Int)+(cb.length:Int)):=⟨by rw [hxs,List.length_append];omega⟩
 have HXL:Aside0 (xs.length≤2000):=⟨by have:=HLN.out;rw [hxs,List.length_append];omega⟩
 clear hxs
 go_upto_block 1 with (fail)
 go_cut [6] (fun s6 wc=>Aside0 (Kd.R kGl 42 wc w9.heap.size (fun _=>True) s6 (xs.map glOf))∧Aside0 (Below w9.heap.size w9 wc))
 case first =>
  go_wp2_with fail
  go_loopg [6,43] xs.length (fun gg s6 s wr=>∃ i:Nat,i≤xs.length∧xs.length-i≤gg∧s = .int .i64 i∧Aside0 (Kd.R kGl 42 wr w9.heap.size (fun _=>True) s6 ((xs.take i).map glOf))∧Aside0 (Below w9.heap.size w9 wr))
  case atStart=>exact ⟨0,by omega,by omega,rfl,⟨Kd.R_nil _ _ _ _ _⟩,⟨Below.refl _ _⟩⟩
  case round =>
   obtain ⟨i,hi,hg,rfl,HO,HBr⟩:=hrel
   by_cases hlt:i<xs.length
   ·have hlti:(i:Int)<(xs.length:Int):=by omega
    have hlti2:(i:Int)<(ca.length:Int)+(cb.length:Int):=by rw [← HXC.out];exact hlti
    have hi0:(0:Int)≤(i:Int):=by omega
    obtain ⟨ad,e1,x0,x1,x2,x3⟩:=at_T50 (Kd.C_below HQ.out.2.2 HBr.out) (i:Int) (by omega) (by omega)
    simp only [Int.toNat_natCast] at x0 x1 x2 x3
    have hrd:rd_T50 xs (i:Int)=xs[i]:=by simp [rd_T50,List.getD_eq_getElem?_getD,hlt]
    have HSTEP:=aK (show wrap64 ((i:Int)+1)=((i+1:Nat):Int) by have:=HLN.out;have:=HXL.out;unfold wrap64;omega)
    have HN:=aK (map_next glOf xs i hlt)
    rw [← hrd] at HN
    have HXN:Aside0 ((((xs.take i).map glOf).length+1)*56≤140737488355328):=⟨by have:=HXL.out;rw [List.length_map,List.length_take];omega⟩
    clear hrd
    generalize rd_T50 xs (i:Int)=x at *
    generalize (xs.take i).map glOf=gl at *
    subst e1
    obtain ⟨A9,c9,rfl⟩:=Kd.R_slice HO.out
    have HOx:=aK (Kd.R_below HO.out (below_alloc (Below.refl wr.heap.size wr) (.cells #[.int .i64 x.f0,.int .i64 x.f1,.int .i64 x.f2,.int .i64 x.f3] 50)))
    have HBx:=aK (below_alloc HBr.out (.cells #[.int .i64 x.f0,.int .i64 x.f1,.int .i64 x.f2,.int .i64 x.f3] 50))
    have X1:=blk_new wr (.cells #[.int .i64 x.f0,.int .i64 x.f1,.int .i64 x.f2,.int .i64 x.f3] 50)
    go_upto_region 9 with (fail)
    generalize wr.heap.size=b8 at *
    generalize wr.alloc (.cells #[.int .i64 x.f0,.int .i64 x.f1,.int .i64 x.f2,.int .i64 x.f3] 50)=V4 at *
    clear x0 x1 x2 x3
    have x0:=(blk_cell X1 0).trans rfl
    have x1:=(blk_cell X1 1).trans rfl
    have x2:=(blk_cell X1 2).trans rfl
    have x3:=(blk_cell X1 3).trans rfl
    clear X1
    go_wp2_with ((with_reducible refine gate_builtin (b:=.append) (xs:=#[.tmp 47,.tmp 57]) rfl ?_);at_builtin;refine Kd.R_append kGl (w0:=w9) w9.heap.size rfl (.tmp 47) (.tmp 57) 37 42 (.agg #[(.int .i64 0),(.int .i64 0),(.int .i64 0),(.int .i64 0),.slice none 0 0]) 56 rfl Tryz.underlying37 infoGm rfl (by decide) (by omega) (.slice A9 gl.length c9) gl (glOf x) (glOf x).cells (fun _=>True) (fun _=>False) rfl (by first|(go_simp;done)|(go_simp;rfl)) ?aP (fun _ hk=>hk.elim) ?aF ?aO ?aB ?aS ?aL ?_;(case aP=>exact rfl);(case aF=>exact (fun _ _=>trivial));(case aO=>exact HOx.out);(case aB=>exact HBx.out);(case aS=>exact HBx.out.size);(case aL=>exact HXN.out);intro v3 w3 ho hb hg hat;rw [← HN.out] at ho;have HO3:=aK ho;have HB3:=aK hb;clear ho hb hg hat x0 x1 x2 x3)
    go_roundg (xs.length-(i+1))
    case measure=>omega
    case rel=>exact ⟨i+1,by omega,by omega,by first|exact congrArg (Value.int .i64) HSTEP.out|go_num,HO3,HB3⟩
   ·have hlti : ¬ (i:Int)<(xs.length:Int):=by omega
    have hlti2 : ¬ (i:Int)<(ca.length:Int)+(cb.length:Int):=by rw [← HXC.out];exact hlti
    obtain rfl:i=xs.length:=by omega
    rw [List.take_length] at HO
    go_wp2
    go_meet
    case rel=>exact ⟨HO,HBr⟩
 case rest =>
 obtain ⟨HG,HB5⟩:=hcut
 obtain ⟨w5,hw5⟩ : ∃ w5:World,w5=wc:=⟨_,rfl⟩
 subst hw5
 have hgs:=HG.out
 obtain ⟨A7,c7,rfl⟩:=Kd.R_slice hgs
 rw [List.length_map]
 have HGQ:=aK (Kd.R_reads' hgs).2.2
 have I5:=aK (I4.out.ofBelow HB5.out)
 clear hgs HG HB5 I4 HQ
 go_upto_region 11 with (fail)
 have B0:=below_step I5.out.res.below (below_drew1 (Below.refl w5.heap.size w5))
 have ID:=aK (I5.out.ofBelow (below_drew1 (Below.refl w5.heap.size w5)))
 have HRA:=aK (Kd.C_below HR2.out B0)
 have HRB:=aK (Kd.C_below HR4.out B0)
 have P0:=aK ((blk_cell ID.out.ba 2).trans rfl)
 have P1:=aK ((blk_cell ID.out.bb 2).trans rfl)
 clear B0 I5
 refine start_ (n:=8) (S:=fun w'=>w'.cell? ⟨b2,2,none⟩=some (.slice A2 ra.length c2)∧w'.cell? ⟨b3,2,none⟩=some (.slice B2 rb.length d2)) (ds:=[]) #[false,false,false,false,false,false,false,false] (by kernel_rfl) rfl rfl ⟨P0.out,P1.out⟩ (fun hHeld=>?_)
 refine pu 1 (some 61) ?_ rfl rfl (by kernel_rfl) (fun _ _ _ h=>h) (.inl ⟨by rfl,?_⟩) ?_ ?_ ?_;rotate_left;intro w';go_simp;with_reducible rfl;rotate_left;simp only [nS];rfl
 refine pu 4 (some 64) ?_ rfl rfl (by kernel_rfl) (fun _ _ _ h=>h) (.inl ⟨by rfl,?_⟩) ?_ ?_ ?_;rotate_left;intro w';go_simp;with_reducible rfl;rotate_left;simp only [nS];rfl
 refine tk 2 (some 62) ?_ rfl rfl (by kernel_rfl) (fun _ _ _ h=>h) (.inl ⟨by rfl,?_⟩) hHeld ?_ ?_ ?_;rotate_left;rintro w' ⟨s0,s1⟩;go_simp;with_reducible rfl;rotate_left;simp only [nS];rfl
 refine tk 5 (some 65) ?_ rfl rfl (by kernel_rfl) (fun _ _ _ h=>h) (.inl ⟨by rfl,?_⟩) hHeld ?_ ?_ ?_;rotate_left;rintro w' ⟨s0,s1⟩;go_simp;with_reducible rfl;rotate_left;simp only [nS];rfl
 refine one_ (i:=0) (N:=some 60) #[true,true,true,false,true,true,false,false] rfl rfl (by kernel_rfl) (by decide) (fun K hK=>?_)
 refine Kd.R_lit_step k45 _ 45 ?hg (N:=60) ?hd (xs:=[]) (inner:=[]) (ok:=fun _=>True) (okp:=fun _=>False) ?hr ?hp (fun _ _=>trivial) trivial (Below.refl _ _) (Nat.le_refl _) (by simp) ?_
 case hd=>rfl
 case hg=>rfl
 case hr=>first|(go_simp;done)|(go_simp;rfl)
 case hp=>exact Reps.none _ _
 intro v60 w7 ho7 hb7 hg7 hat7
 have HO7:=aK ho7
 have HB7:=aK hb7
 clear ho7 hb7 hg7 hat7
 refine hK.out _ _ ⟨(HB7.out.cell (World.block_lt_of_cell? _ _ P0.out)).trans P0.out,(HB7.out.cell (World.block_lt_of_cell? _ _ P1.out)).trans P1.out⟩ (fun hHeld=>?_)
 clear hK K
 refine norm_ (a':=?_) ?_ ?_;rotate_left;show Act.put _ (some 60) _=_;simp only [nS];rfl
 refine one_ (i:=3) (N:=some 63) #[true,true,true,true,true,true,false,false] rfl rfl (by kernel_rfl) (by decide) (fun K hK=>?_)
 refine Kd.R_append_rows_step k45 _ (by rfl) (.tmp 60) (.tmp 62) 23 45 (.agg #[.int .i64 0,.int .i64 0,.int .i64 0,.int .i64 0]) 32 rfl Tryz.underlying23 info45 rfl (by decide) (by omega) v60 [] ra A2 _ c2 (fun _=>True) (fun _=>False) rfl rfl HO7.out (Kd.C_below HRA.out HB7.out) (fun y cs h=>flatR _ y cs h _ _ _) (fun _ h=>h.elim) (fun _ _=>trivial) HB7.out HB7.out.size ?aL ?_
 case aL=>have:=HLN.out;simp only [List.length_nil];omega
 intro v61 w8 ho8 hb8 hg8 hat8
 have HO8:=aK ho8
 have HB8:=aK hb8
 clear ho8 hb8 hg8 hat8 HO7 HB7
 refine hK.out _ _ ⟨(HB8.out.cell (World.block_lt_of_cell? _ _ P0.out)).trans P0.out,(HB8.out.cell (World.block_lt_of_cell? _ _ P1.out)).trans P1.out⟩ (fun hHeld=>?_)
 clear hK K
 refine norm_ (a':=?_) ?_ ?_;rotate_left;show Act.put _ (some 63) _=_;simp only [nS];rfl
 refine one_ (i:=6) (N:=some 66) #[true,true,true,true,true,true,true,false] rfl rfl (by kernel_rfl) (by decide) (fun K hK=>?_)
 refine Kd.R_append_rows_step k45 _ (by rfl) (.tmp 63) (.tmp 65) 23 45 (.agg #[.int .i64 0,.int .i64 0,.int .i64 0,.int .i64 0]) 32 rfl Tryz.underlying23 info45 rfl (by decide) (by omega) v61 ([]++ra) rb B2 _ d2 (fun _=>True) (fun _=>False) rfl rfl HO8.out (Kd.C_below HRB.out HB8.out) (fun y cs h=>flatR _ y cs h _ _ _) (fun _ h=>h.elim) (fun _ _=>trivial) HB8.out HB8.out.size ?aL ?_
 case aL=>have:=HLN.out;simp only [List.nil_append];omega
 intro v62 w9 ho9 hb9 hg9 hat9
 have HO9:=aK ho9
 have HB9:=aK hb9
 clear ho9 hb9 hg9 hat9 HO8 HB8
 simp only [List.nil_append] at HO9
 obtain ⟨A62,c62,rfl⟩:=Kd.R_slice HO9.out
 refine hK.out _ _ ⟨(HB9.out.cell (World.block_lt_of_cell? _ _ P0.out)).trans P0.out,(HB9.out.cell (World.block_lt_of_cell? _ _ P1.out)).trans P1.out⟩ (fun hHeld=>?_)
 clear hK K
 refine norm_ (a':=?_) ?_ ?_;rotate_left;show Act.put _ (some 66) _=_;simp only [nS];rfl
 refine pu 7 (some 9) ?_ rfl rfl (by kernel_rfl) (fun _ _ _ h=>h) (.inl ⟨by rfl,?_⟩) ?_ ?_ ?_;rotate_left;intro w';go_simp;with_reducible rfl;rotate_left;simp only [nS];rfl
 refine done_ (by kernel_rfl) ?_
 have hb9:=below_step (below_drew1 (Below.refl w5.heap.size w5)) HB9.out
 have HG2:=aK (Kd.C_below HGQ.out hb9)
 have HQ2:=aK (Kd.R_reads' HO9.out)
 have I6:=aK (ID.out.ofBelow HB9.out)
 clear ID HB9 HO9 HGQ hb9
 obtain ⟨w6,hw6⟩ : ∃ w6:World,w6=w9:=⟨_,rfl⟩
 subst hw6
 rw [List.length_append]
 have p1:=(blk_cell I6.out.ba 1).trans rfl
 go_upto_block 3 with (fail)
 clear p1
 go_cut [] (fun wc=>Aside0 (ca.any (hitC cb)=false)∧Aside0 (Below w6.heap.size w6 wc))
 case first =>
  go_wp2_with fail
  go_loopg [70] ca.length (fun gg s wr=>∃ i:Nat,i≤ca.length∧ca.length-i≤gg∧s = .int .i64 i∧Aside0 ((ca.take i).any (hitC cb)=false)∧Aside0 (Below w6.heap.size w6 wr))
  case atStart=>exact ⟨0,by omega,by omega,rfl,⟨rfl⟩,⟨Below.refl _ _⟩⟩
  case round =>
   obtain ⟨i,hi,hg,rfl,HO,HBr⟩:=hrel
   by_cases hlt:i<ca.length
   ·have hlti:(i:Int)<(ca.length:Int):=by omega
    have hi0:(0:Int)≤(i:Int):=by omega
    obtain ⟨ad,e1,x0,x1,x2,x3⟩:=at_T50 (Kd.C_below HR1.out (below_step I6.out.res.below HBr.out)) (i:Int) (by omega) (by omega)
    simp only [Int.toNat_natCast] at x0 x1 x2 x3
    have hrd:rd_T50 ca (i:Int)=ca[i]:=by simp [rd_T50,List.getD_eq_getElem?_getD,hlt]
    have HSTEP:=aK (show wrap64 ((i:Int)+1)=((i+1:Nat):Int) by have:=HLN.out;have:=HXL.out;unfold wrap64;omega)
    have HNX:=aK (fun h=>any_next (p:=(hitC cb)) hlt HO.out h)
    have HHIT:=aK (fun h=>any_hit (p:=(hitC cb)) hlt h)
    rw [← hrd] at HNX HHIT
    clear hrd
    generalize rd_T50 ca (i:Int)=x at *
    have HFX:=aK (fun V hv=>HFI.out V x.f0 hv HVB.out)
    have hh:hitC cb x=((findL cb x.f0).2.2.2.2 == 0):=rfl
    rw [hh] at HNX HHIT
    clear hh
    generalize findL cb x.f0=q at *
    obtain ⟨q1,q2,q3,q4,q5⟩:=q
    dsimp only at HFX HNX HHIT
    subst e1
    have I7:=aK (I6.out.ofBelow (below_alloc HBr.out (.cells #[.int .i64 x.f0,.int .i64 x.f1,.int .i64 x.f2,.int .i64 x.f3] 50)))
    have HBx:=aK (below_alloc HBr.out (.cells #[.int .i64 x.f0,.int .i64 x.f1,.int .i64 x.f2,.int .i64 x.f3] 50))
    have X1:=blk_new wr (.cells #[.int .i64 x.f0,.int .i64 x.f1,.int .i64 x.f2,.int .i64 x.f3] 50)
    go_upto_region 15 with (fail)
    generalize wr.heap.size=b8 at *
    generalize wr.alloc (.cells #[.int .i64 x.f0,.int .i64 x.f1,.int .i64 x.f2,.int .i64 x.f3] 50)=V4 at *
    clear x0 x1 x2 x3
    have x0:=(blk_cell X1 0).trans rfl
    have x1:=(blk_cell X1 1).trans rfl
    have n0:=(blk_cell I7.out.bb 0).trans rfl
    have n1:=(blk_cell I7.out.bb 1).trans rfl
    have n2:=(blk_cell I7.out.bb 2).trans rfl
    clear X1
    have hc:=HFX.out V4 I7.out.res.below
    go_wp2_with (first|fail)
    refine hc.mono ?_
    clear hc x0 x1 n0 n1 n2
    rintro e W8 ⟨rfl,hb⟩
    have I8:=aK (I7.out.ofBelow (below_alloc hb (.cells #[.int .i64 q1,.int .i64 q2,.int .i64 q3,.int .i64 q4] 50)))
    have HB8:=aK (below_step HBx.out (below_alloc hb (.cells #[.int .i64 q1,.int .i64 q2,.int .i64 q3,.int .i64 q4] 50)))
    clear hb I7 HBx HBr
    go_upto_region 16 with (fail)
    generalize W8.alloc (.cells #[.int .i64 q1,.int .i64 q2,.int .i64 q3,.int .i64 q4] 50)=V5 at *
    by_cases hz:q5=0
    ·have e2:(q5 == 0)=true:=beq_iff_eq.mpr hz
     have I9:=aK I8.out.res
     have HOx:Aside0 (r=(0,[],[],14)):=⟨by rw [HF3.out,HHIT.out (beq_iff_eq.mpr hz)];rfl⟩
     clear HO I8 HNX HHIT
     have HO:=HOx
     clear HOx
     have q0:=blk_frozen I9.out.res 0
     have q1:=blk_frozen I9.out.res 1
     have q2:=blk_frozen I9.out.res 2
     have q3:=(blk_cell I9.out.res 0).trans rfl
     have q4:=(blk_cell I9.out.res 1).trans rfl
     have q5:=(blk_cell I9.out.res 2).trans rfl
     have X3:=aK (blk_put (blk_put (blk_put I9.out.res 0 (.int .i64 0) rfl) 1 (.slice none 0 0) rfl) 2 (.slice none 0 0) rfl)
     go_wp2
     refine bodyPost_ret (results_ct rfl _ _ b4 25 #[.int .i64 0,.slice none 0 0,.slice none 0 0] (0,0) _ rfl X3.out Tryz.underlying25 rfl (by kernel_rfl)) rfl ?_
     rw [HO.out]
     exact ⟨.slice none 0 0,.slice none 0 0,rfl,Kd.R_nil _ _ _ _ _,Kd.R_nil _ _ _ _ _,below_set (below_set (below_set I9.out.below I9.out.le) I9.out.le) I9.out.le⟩
    ·have e2:(q5 == 0)=false:=beq_eq_false_iff_ne.mpr hz
     have HN:=aK (HNX.out (beq_eq_false_iff_ne.mpr hz))
     clear HHIT HNX
     go_wp2
     go_roundg (ca.length-(i+1))
     case measure=>omega
     case rel=>exact ⟨i+1,by omega,by omega,by first|exact congrArg (Value.int .i64) HSTEP.out|go_num,HN,HB8⟩
   ·have hlti : ¬ (i:Int)<(ca.length:Int):=by omega
    obtain rfl:i=ca.length:=by omega
    rw [List.take_length] at HO
    go_wp2
    go_meet
    case rel=>exact ⟨HO,HBr⟩
 case rest =>
 obtain ⟨HNO,HB6⟩:=hcut
 obtain ⟨w7,hw7⟩ : ∃ w7:World,w7=wc:=⟨_,rfl⟩
 subst hw7
 have I10:=aK (I6.out.ofBelow HB6.out)
 have HG3:=aK (Kd.C_below HG2.out HB6.out)
 have HQ3:=aK (Kd.C_below HQ2.out.2.2 HB6.out)
 have HF4:Aside0 (r=if ra.any (hitR rb) then (0,[],[],14) else ofR sz xs (ra++rb)):=⟨by rw [HF3.out,HNO.out,Bool.false_or,HXS.out]⟩
 clear HG2 HB6 I6 HF3 HNO
 have p2:=(blk_cell I10.out.ba 2).trans rfl
 go_upto_block 5 with (fail)
 clear p2
 go_cut [] (fun wc=>Aside0 (ra.any (hitR rb)=false)∧Aside0 (Below w7.heap.size w7 wc))
 case first =>
  go_wp2_with fail
  go_loopg [88] ra.length (fun gg s wr=>∃ i:Nat,i≤ra.length∧ra.length-i≤gg∧s = .int .i64 i∧Aside0 ((ra.take i).any (hitR rb)=false)∧Aside0 (Below w7.heap.size w7 wr))
  case atStart=>exact ⟨0,by omega,by omega,rfl,⟨rfl⟩,⟨Below.refl _ _⟩⟩
  case round =>
   obtain ⟨i,hi,hg,rfl,HO,HBr⟩:=hrel
   by_cases hlt:i<ra.length
   ·have hlti:(i:Int)<(ra.length:Int):=by omega
    have hi0:(0:Int)≤(i:Int):=by omega
    obtain ⟨ad,e1,x0,x1,x2,x3⟩:=at_T45 (Kd.C_below HR2.out (below_step I10.out.res.below HBr.out)) (i:Int) (by omega) (by omega)
    simp only [Int.toNat_natCast] at x0 x1 x2 x3
    have hrd:rd_T45 ra (i:Int)=ra[i]:=by simp [rd_T45,List.getD_eq_getElem?_getD,hlt]
    have HSTEP:=aK (show wrap64 ((i:Int)+1)=((i+1:Nat):Int) by have:=HLN.out;have:=HXL.out;unfold wrap64;omega)
    have HNX:=aK (fun h=>any_next (p:=(hitR rb)) hlt HO.out h)
    have HHIT:=aK (fun h=>any_hit (p:=(hitR rb)) hlt h)
    rw [← hrd] at HNX HHIT
    clear hrd
    generalize rd_T45 ra (i:Int)=x at *
    have HFX:=aK (fun V hv=>HFO.out V x.f0 x.f1 hv)
    have hh:hitR rb x=(forL rb x.f0 x.f1).2.2.2.2:=rfl
    rw [hh] at HNX HHIT
    clear hh
    generalize forL rb x.f0 x.f1=q at *
    obtain ⟨q1,q2,q3,q4,q5⟩:=q
    dsimp only at HFX HNX HHIT
    subst e1
    have I7:=aK (I10.out.ofBelow (below_alloc HBr.out (.cells #[.int .i64 x.f0,.int .i64 x.f1,.int .i64 x.f2,.int .i64 x.f3] 45)))
    have HBx:=aK (below_alloc HBr.out (.cells #[.int .i64 x.f0,.int .i64 x.f1,.int .i64 x.f2,.int .i64 x.f3] 45))
    have X1:=blk_new wr (.cells #[.int .i64 x.f0,.int .i64 x.f1,.int .i64 x.f2,.int .i64 x.f3] 45)
    go_upto_region 22 with (fail)
    generalize wr.heap.size=b8 at *
    generalize wr.alloc (.cells #[.int .i64 x.f0,.int .i64 x.f1,.int .i64 x.f2,.int .i64 x.f3] 45)=V4 at *
    clear x0 x1 x2 x3
    have x0:=(blk_cell X1 0).trans rfl
    have x1:=(blk_cell X1 1).trans rfl
    have n0:=(blk_cell I7.out.bb 0).trans rfl
    have n1:=(blk_cell I7.out.bb 1).trans rfl
    have n2:=(blk_cell I7.out.bb 2).trans rfl
    clear X1
    have hc:=HFX.out V4 I7.out.res.below
    go_wp2_with (first|fail)
    refine hc.mono ?_
    clear hc x0 x1 n0 n1 n2
    rintro e W8 ⟨rfl,hb⟩
    have I8:=aK (I7.out.ofBelow (below_alloc hb (.cells #[.int .i64 q1,.int .i64 q2,.int .i64 q3,.int .i64 q4] 45)))
    have HB8:=aK (below_step HBx.out (below_alloc hb (.cells #[.int .i64 q1,.int .i64 q2,.int .i64 q3,.int .i64 q4] 45)))
    clear hb I7 HBx HBr
    go_upto_region 23 with (fail)
    generalize W8.alloc (.cells #[.int .i64 q1,.int .i64 q2,.int .i64 q3,.int .i64 q4] 45)=V5 at *
    cases q5
    case true =>
     have I9:=aK I8.out.res
     have HOx:Aside0 (r=(0,[],[],14)):=⟨by rw [HF4.out,HHIT.out rfl];rfl⟩
     clear HO I8 HNX HHIT
     have HO:=HOx
     clear HOx
     have q0:=blk_frozen I9.out.res 0
     have q1:=blk_frozen I9.out.res 1
     have q2:=blk_frozen I9.out.res 2
     have q3:=(blk_cell I9.out.res 0).trans rfl
     have q4:=(blk_cell I9.out.res 1).trans rfl
     have q5:=(blk_cell I9.out.res 2).trans rfl
     have X3:=aK (blk_put (blk_put (blk_put I9.out.res 0 (.int .i64 0) rfl) 1 (.slice none 0 0) rfl) 2 (.slice none 0 0) rfl)
     go_wp2
     refine bodyPost_ret (results_ct rfl _ _ b4 25 #[.int .i64 0,.slice none 0 0,.slice none 0 0] (0,0) _ rfl X3.out Tryz.underlying25 rfl (by kernel_rfl)) rfl ?_
     rw [HO.out]
     exact ⟨.slice none 0 0,.slice none 0 0,rfl,Kd.R_nil _ _ _ _ _,Kd.R_nil _ _ _ _ _,below_set (below_set (below_set I9.out.below I9.out.le) I9.out.le) I9.out.le⟩
    case false =>
     have HN:=aK (HNX.out rfl)
     clear HHIT HNX
     go_wp2
     go_roundg (ra.length-(i+1))
     case measure=>omega
     case rel=>exact ⟨i+1,by omega,by omega,by first|exact congrArg (Value.int .i64) HSTEP.out|go_num,HN,HB8⟩
   ·have hlti : ¬ (i:Int)<(ra.length:Int):=by omega
    obtain rfl:i=ra.length:=by omega
    rw [List.take_length] at HO
    go_wp2
    go_meet
    case rel=>exact ⟨HO,HBr⟩
 case rest =>
 obtain ⟨HNO,HB7⟩:=hcut
 have I11:=aK (I10.out.ofBelow HB7.out)
 have HG4:=aK (Kd.C_below HG3.out HB7.out)
 have HQ4:=aK (Kd.C_below HQ3.out HB7.out)
 have hmm:(xs.map glOf).map glC=xs:=(List.map_map ..).trans (List.map_id'' (fun _=>rfl) xs)
 have HO:Aside0 (r=ofR sz ((xs.map glOf).map glC) (ra++rb)):=⟨by rw [HF4.out,HNO.out,hmm];rfl⟩
 have HLR:Aside0 ((ra++rb).length≤2000):=⟨by have:=HLN.out;rw [List.length_append];omega⟩
 clear HG3 HQ3 HB7 I10 HNO HF4 hmm HQ2
 have p0:=(blk_cell I11.out.ba 0).trans rfl
 have hc:=refOf_calls sz A7 c7 (xs.map glOf) A62 c62 (ra++rb) wc HG4.out HQ4.out (by rw [List.length_map];have:=HXL.out;omega) (by have:=HLR.out;omega)
 simp only [List.length_map,List.length_append] at hc
 go_wp2_with (first|fail)
 refine hc.mono ?_
 clear p0 hc
 rintro e W9 ⟨v1,v2,rfl,hr3,hr4,hb⟩
 rw [← HO.out] at hr3 hr4 ⊢
 have hr5:=Kd.R_lower hr3 I11.out.res.below.size
 have hr6:=Kd.R_lower hr4 I11.out.res.below.size
 have RB:=aK (I11.out.res.ofBelow hb)
 clear HO HG4 HQ4 HR1 HR2 HR3 HR4 hr3 hr4 hb
 obtain ⟨A3,c3,rfl⟩:=Kd.R_slice hr5
 obtain ⟨A4,c4,rfl⟩:=Kd.R_slice hr6
 have O1:=aK hr5
 have O2:=aK hr6
 clear hr5 hr6
 obtain ⟨r1,r2,r3,r4⟩:=r
 dsimp only at O1 O2 ⊢
 have q0:=blk_frozen RB.out.res 0
 have q1:=blk_frozen RB.out.res 1
 have q2:=blk_frozen RB.out.res 2
 have q3:=(blk_cell RB.out.res 0).trans rfl
 have q4:=(blk_cell RB.out.res 1).trans rfl
 have q5:=(blk_cell RB.out.res 2).trans rfl
 have X1:=aK (blk_put RB.out.res 0 (.int .i64 r1) rfl)
 have X2:=aK (blk_put X1.out 1 (.slice A3 r2.length c3) rfl)
 have X3:=aK (blk_put X2.out 2 (.slice A4 r3.length c4) rfl)
 go_wp2
 refine bodyPost_ret (results_ct rfl _ _ b4 25 #[.int .i64 r1,.slice A3 r2.length c3,.slice A4 r3.length c4] (0,0) _ rfl X3.out Tryz.underlying25 rfl (by kernel_rfl)) rfl ?_
 exact ⟨.slice A3 r2.length c3, .slice A4 r3.length c4, rfl,
  Kd.R_set (Kd.R_set (Kd.R_set O1.out RB.out.res (fun q hq=>by rw [opq50 q hq];decide) 0 _) X1.out (fun q hq=>by rw [opq50 q hq];decide) 1 _) X2.out (fun q hq=>by rw [opq50 q hq];decide) 2 _,
  Kd.R_set (Kd.R_set (Kd.R_set O2.out RB.out.res (fun q hq=>by rw [opq45 q hq];decide) 0 _) X1.out (fun q hq=>by rw [opq45 q hq];decide) 1 _) X2.out (fun q hq=>by rw [opq45 q hq];decide) 2 _,
  below_set (below_set (below_set RB.out.below RB.out.le) RB.out.le) RB.out.le⟩
theorem lit2_M {W : World} {b : Nat} {x y : S25} {A1 A2 B1 B2 : Option Addr} {c1 c2 d1 d2 : Nat} (h1 : Kd.C k50 W A1 x.f1.length x.f1) (l1 : x.f1.length ≤ c1) (h2 : Kd.C k45 W A2 x.f2.length x.f2) (l2 : x.f2.length ≤ c2) (h3 : Kd.C k50 W B1 y.f1.length y.f1) (l3 : y.f1.length ≤ d1) (h4 : Kd.C k45 W B2 y.f2.length y.f2) (l4 : y.f2.length ≤ d2)
  (hb:W.heap[b]?=some (.cells #[.int .i64 x.f0,.slice A1 x.f1.length c1,.slice A2 x.f2.length c2,.int .i64 y.f0,.slice B1 y.f1.length d1,.slice B2 y.f2.length d2] 25 (0,0))):Kd.C k25 W (some ⟨b,0,none⟩) 2 [x,y]:=by
 refine ⟨rfl,by decide,fun _=>⟨⟨b,0,none⟩,rfl,fun j p hj=>?_⟩⟩
 rcases j with _|j
 ·obtain rfl:x=p:=by simpa using hj
  refine ⟨_,rfl,k25_mk W x l1 h1 l2 h2,fun i u hu=>?_⟩
  rw [add_plain,Nat.zero_mul,Nat.zero_add,blk_cell hb i]
  rcases i with _|_|_|i <;> first|exact hu|(simp at hu)
 ·rcases j with _|j
  ·obtain rfl:y=p:=by simpa using hj
   refine ⟨_,rfl,k25_mk W y l3 h3 l4 h4,fun i u hu=>?_⟩
   rw [add_plain,blk_cell hb]
   rcases i with _|_|_|i <;> first|exact hu|(simp at hu)
  ·simp at hj
structure BoI (w W:World) (b5:Nat) (X1:Int) (A5:Option Addr) (c5:Nat) (X2:List S50) (A6:Option Addr) (c6:Nat) (X3:List S45):Prop where
 bm:W.heap[b5]?=some (.cells #[.int .i64 X1,.slice A5 X2.length c5,.slice A6 X3.length c6] 25 (0,0))
 rc:Kd.C k50 W A5 X2.length X2
 lc:X2.length≤c5
 rr:Kd.C k45 W A6 X3.length X3
 lr:X3.length≤c6
 below:Below w.heap.size w W
theorem BoI.ofBelow {w W W':World} {b5:Nat} {X1:Int} {A5:Option Addr} {c5:Nat} {X2:List S50} {A6:Option Addr} {c6:Nat} {X3:List S45} (h:BoI w W b5 X1 A5 c5 X2 A6 c6 X3) (hb:Below W.heap.size W W'):BoI w W' b5 X1 A5 c5 X2 A6 c6 X3 :=
 ⟨blk_below h.bm hb,Kd.C_below h.rc hb,h.lc,Kd.C_below h.rr hb,h.lr,below_step h.below hb⟩
def fleuronlaw27_MetricMerges.P (k:Nat) (sz:Int) (cs:List S50) (rs:List S45) (sz2:Int) (cs2:List S50) (rs2:List S45):Prop :=
 fleuronlaw27_few.f k [⟨sz, cs, rs⟩, ⟨sz2, cs2, rs2⟩] = some false ∨ (fleuronlaw27_few.f k [⟨sz, cs, rs⟩, ⟨sz2, cs2, rs2⟩] = some true ∧ (cs.length ≤ 1000 ∧ rs.length ≤ 1000 ∧ cs2.length ≤ 1000 ∧ rs2.length ≤ 1000) ∧ (∃ c3 r3, (c3.Perm (cs ++ cs2) ∧ RiseC c3) ∧ (r3.Perm (rs ++ rs2) ∧ RiseR r3)) ∧
  (∀ c3 r3,(c3.Perm (cs++cs2)∧RiseC c3)→(r3.Perm (rs++rs2)∧RiseR r3)→mergeE sz cs rs sz2 cs2 rs2 c3 r3=mergeW sz cs rs sz2 cs2 rs2)∧fleuronref27_Same.f k (mergeW sz cs rs sz2 cs2 rs2).1 (mergeW sz cs rs sz2 cs2 rs2).2.1 (mergeW sz cs rs sz2 cs2 rs2).2.2.1 (mergeW sz cs rs sz2 cs2 rs2).1 (mergeW sz cs rs sz2 cs2 rs2).2.1 (mergeW sz cs rs sz2 cs2 rs2).2.2.1=some true)
set_option maxHeartbeats 16000000 in
theorem fleuronlaw27_MetricMerges.calls (k : Nat) (sz : Int) (A1 : Option Addr) (c1 : Nat) (cs : List S50) (A2 : Option Addr) (c2 : Nat) (rs : List S45) (sz2 : Int) (B1 : Option Addr) (d1 : Nat) (cs2 : List S50) (B2 : Option Addr) (d2 : Nat) (rs2 : List S45) (w : World) (hr1 : Kd.C k50 w A1 cs.length cs) (hc1 : cs.length ≤ c1) (hr2 : Kd.C k45 w A2 rs.length rs) (hc2 : rs.length ≤ c2) (hr3 : Kd.C k50 w B1 cs2.length cs2) (hc3 : cs2.length ≤ d1) (hr4 : Kd.C k45 w B2 rs2.length rs2) (hc4 : rs2.length ≤ d2) (h : fleuronlaw27_MetricMerges.P k sz cs rs sz2 cs2 rs2) :
  Calls Tryz.prog 7 #[.agg #[.int .i64 sz,.slice A1 cs.length c1,.slice A2 rs.length c2],.agg #[.int .i64 sz2,.slice B1 cs2.length d1,.slice B2 rs2.length d2]] w fun e w'=>e = .returned (.bool true)∧Below w.heap.size w w':=by
 have hu:=Tryz.underlying25
 have hu50:=Tryz.underlying50
 have hu45:=Tryz.underlying45
 have HR1:=aK hr1
 have HR2:=aK hr2
 have HR3:=aK hr3
 have HR4:=aK hr4
 have HC1:=aK hc1
 have HC2:=aK hc2
 have HC3:=aK hc3
 have HC4:=aK hc4
 obtain ⟨b1,hb1⟩ : ∃ b1,b1=w.heap.size:=⟨_,rfl⟩
 obtain ⟨b2,hb2⟩ : ∃ b2,b2=w.heap.size+1:=⟨_,rfl⟩
 have HB:=aK (below_alloc (below_alloc (Below.refl w.heap.size w) (.cells #[.int .i64 sz,.slice A1 cs.length c1,.slice A2 rs.length c2] 25)) (.cells #[.int .i64 sz2,.slice B1 cs2.length d1,.slice B2 rs2.length d2] 25))
 have hbm:=blk_alloc (blk_new w (.cells #[.int .i64 sz,.slice A1 cs.length c1,.slice A2 rs.length c2] 25)) (.cells #[.int .i64 sz2,.slice B1 cs2.length d1,.slice B2 rs2.length d2] 25)
 have hbn:=blk_new (w.alloc (.cells #[.int .i64 sz,.slice A1 cs.length c1,.slice A2 rs.length c2] 25)) (.cells #[.int .i64 sz2,.slice B1 cs2.length d1,.slice B2 rs2.length d2] 25)
 simp only [World.size_alloc] at hbn
 rw [← hb1] at hbm
 rw [← hb2] at hbn
 have HM:=aK hbm
 have HN:=aK hbn
 have HBE:=aK (And.intro hb1 hb2)
 have H:=aK h
 clear hr1 hr2 hr3 hr4 hc1 hc2 hc3 hc4 hbm hbn hb1 hb2 h
 go_enter Tryz.func7,Tryz.ntmps7
 go_upto_region 1 with (fail)
 rw [← HBE.out.2,← HBE.out.1]
 generalize (w.alloc (.cells #[.int .i64 sz,.slice A1 cs.length c1,.slice A2 rs.length c2] 25)).alloc (.cells #[.int .i64 sz2,.slice B1 cs2.length d1,.slice B2 rs2.length d2] 25)=V at *
 have p0:=(blk_cell HM.out 0).trans rfl
 have p1:=(blk_cell HM.out 1).trans rfl
 have p2:=(blk_cell HM.out 2).trans rfl
 have q0:=(blk_cell HN.out 0).trans rfl
 have q1:=(blk_cell HN.out 1).trans rfl
 have q2:=(blk_cell HN.out 2).trans rfl
 have HB1:=aK (below_alloc HB.out (.cells #[.int .i64 sz,.slice A1 cs.length c1,.slice A2 rs.length c2,.int .i64 sz2,.slice B1 cs2.length d1,.slice B2 rs2.length d2] 25))
 have HM1:=aK (blk_alloc HM.out (.cells #[.int .i64 sz,.slice A1 cs.length c1,.slice A2 rs.length c2,.int .i64 sz2,.slice B1 cs2.length d1,.slice B2 rs2.length d2] 25))
 have HN1:=aK (blk_alloc HN.out (.cells #[.int .i64 sz,.slice A1 cs.length c1,.slice A2 rs.length c2,.int .i64 sz2,.slice B1 cs2.length d1,.slice B2 rs2.length d2] 25))
 have HF:Aside0 (Kd.C k25 (V.alloc (.cells #[.int .i64 sz,.slice A1 cs.length c1,.slice A2 rs.length c2,.int .i64 sz2,.slice B1 cs2.length d1,.slice B2 rs2.length d2] 25)) (some ⟨V.heap.size,0,none⟩) 2 [⟨sz,cs,rs⟩,⟨sz2,cs2,rs2⟩]):=⟨lit2_M (x:=⟨sz,cs,rs⟩) (y:=⟨sz2,cs2,rs2⟩) (Kd.C_below HR1.out HB1.out) HC1.out (Kd.C_below HR2.out HB1.out) HC2.out (Kd.C_below HR3.out HB1.out) HC3.out (Kd.C_below HR4.out HB1.out) HC4.out (blk_new V (.cells #[.int .i64 sz,.slice A1 cs.length c1,.slice A2 rs.length c2,.int .i64 sz2,.slice B1 cs2.length d1,.slice B2 rs2.length d2] 25))⟩
 rcases H.out with hf|⟨hf,hl,hx1,h,hx2⟩
 ·have hc:=fleuronlaw27_few.calls k _ 2 [⟨sz,cs,rs⟩,⟨sz2,cs2,rs2⟩] false _ HF.out (Nat.le_refl 2) hf
  clear hf H
  go_wp2_with fail
  refine hc.mono ?_
  clear hc p0 p1 p2 q0 q1 q2
  rintro e W1 ⟨rfl,hb⟩
  have HB2:=aK (below_step HB1.out hb)
  clear hb HB
  have HB:=HB2
  go_wp2_with fail
  refine (fleuronlaw27_awake.calls true _ rfl).mono ?_
  rintro e WZ ⟨rfl,hbz⟩
  go_wp2
  go_ret
  exact ⟨rfl,below_step HB.out hbz⟩
 have hc:=fleuronlaw27_few.calls k _ 2 [⟨sz,cs,rs⟩,⟨sz2,cs2,rs2⟩] true _ HF.out (Nat.le_refl 2) hf
 have H:=aK h
 have HL:=aK hl
 have HX1:=aK hx1
 have HX2:=aK hx2
 clear hf h hl hx1 hx2
 go_wp2_with fail
 refine hc.mono ?_
 clear hc p0 p1 p2 q0 q1 q2
 rintro e W1 ⟨rfl,hb⟩
 have HB2:=aK (below_step HB1.out hb)
 have HM2:=aK (blk_below HM1.out hb)
 have HN2:=aK (blk_below HN1.out hb)
 clear hb HB1 HM1 HN1 HB HM HN HF
 have p0:=(blk_cell HM2.out 0).trans rfl
 have p1:=(blk_cell HM2.out 1).trans rfl
 have p2:=(blk_cell HM2.out 2).trans rfl
 have q0:=(blk_cell HN2.out 0).trans rfl
 have q1:=(blk_cell HN2.out 1).trans rfl
 have q2:=(blk_cell HN2.out 2).trans rfl
 have hc:=merge_calls sz A1 c1 cs A2 c2 rs sz2 B1 d1 cs2 B2 d2 rs2 W1 (Kd.C_below HR1.out HB2.out) HC1.out (Kd.C_below HR2.out HB2.out) HC2.out (Kd.C_below HR3.out HB2.out) HC3.out (Kd.C_below HR4.out HB2.out) HC4.out (by have:=HL.out;omega) (by have:=HL.out;omega) (by have:=HL.out;omega) (by have:=HL.out;omega) HX1.out
 obtain ⟨X,hX⟩ : ∃ X,mergeW sz cs rs sz2 cs2 rs2=X:=⟨_,rfl⟩
 rw [hX] at HX2
 have HX:=aK hX
 clear hX
 go_wp2_with fail
 refine hc.mono ?_
 clear hc p0 p1 p2 q0 q1 q2
 rintro e W2 ⟨c3,r3,v1,v2,rfl,hp1,hp2,hr5,hr6,hb⟩
 rw [H.out c3 r3 hp1 hp2,HX.out] at hr5 hr6 ⊢
 obtain ⟨X1,X2,X3,X4⟩:=X
 dsimp only at hr5 hr6 HX2 ⊢
 obtain ⟨A5,c5,rfl⟩:=Kd.R_slice hr5
 obtain ⟨A6,c6,rfl⟩:=Kd.R_slice hr6
 have hq5:=Kd.R_reads' hr5
 have hq6:=Kd.R_reads' hr6
 have hbw:=below_step HB2.out hb
 have I3:Aside0 (BoI w (W2.alloc (.cells #[.int .i64 X1,.slice A5 X2.length c5,.slice A6 X3.length c6] 25)) W2.heap.size X1 A5 c5 X2 A6 c6 X3):=⟨⟨blk_new W2 _,Kd.C_alloc hq5.2.2 _,hq5.2.1,Kd.C_alloc hq6.2.2 _,hq6.2.1,below_alloc hbw _⟩⟩
 have HM3:=aK (blk_alloc (blk_below HM2.out hb) (.cells #[.int .i64 X1,.slice A5 X2.length c5,.slice A6 X3.length c6] 25))
 have HN3:=aK (blk_alloc (blk_below HN2.out hb) (.cells #[.int .i64 X1,.slice A5 X2.length c5,.slice A6 X3.length c6] 25))
 clear hr5 hr6 hq5 hq6 hbw hb HB2 HM2 HN2 H hp1 hp2 HX1
 go_upto_region 4 with (fail)
 generalize W2.heap.size=b5 at *
 generalize W2.alloc (.cells #[.int .i64 X1,.slice A5 X2.length c5,.slice A6 X3.length c6] 25)=W3 at *
 have p0:=(blk_cell HM3.out 0).trans rfl
 have p1:=(blk_cell HM3.out 1).trans rfl
 have p2:=(blk_cell HM3.out 2).trans rfl
 have q0:=(blk_cell HN3.out 0).trans rfl
 have q1:=(blk_cell HN3.out 1).trans rfl
 have q2:=(blk_cell HN3.out 2).trans rfl
 have hc:=refMerge_calls sz A1 c1 cs A2 c2 rs sz2 B1 d1 cs2 B2 d2 rs2 W3 (Kd.C_below HR1.out I3.out.below) HC1.out (Kd.C_below HR2.out I3.out.below) HC2.out (Kd.C_below HR3.out I3.out.below) HC3.out (Kd.C_below HR4.out I3.out.below) HC4.out HL.out.1 HL.out.2.1 HL.out.2.2.1 HL.out.2.2.2
 rw [HX.out] at hc
 dsimp only at hc
 go_wp2_with fail
 refine hc.mono ?_
 clear hc p0 p1 p2 q0 q1 q2
 rintro e W4 ⟨v1,v2,rfl,hr5,hr6,hb⟩
 obtain ⟨A7,c7,rfl⟩:=Kd.R_slice hr5
 obtain ⟨A8,c8,rfl⟩:=Kd.R_slice hr6
 have hq5:=Kd.R_reads' hr5
 have hq6:=Kd.R_reads' hr6
 have I4:=aK ((I3.out.ofBelow hb).ofBelow (below_alloc (Below.refl _ _) (.cells #[.int .i64 X1,.slice A7 X2.length c7,.slice A8 X3.length c8] 25)))
 have HY4:=aK (blk_new W4 (.cells #[.int .i64 X1,.slice A7 X2.length c7,.slice A8 X3.length c8] 25))
 have HQ5:=aK (And.intro (Kd.C_alloc hq5.2.2 (.cells #[.int .i64 X1,.slice A7 X2.length c7,.slice A8 X3.length c8] 25)) hq5.2.1)
 have HQ6:=aK (And.intro (Kd.C_alloc hq6.2.2 (.cells #[.int .i64 X1,.slice A7 X2.length c7,.slice A8 X3.length c8] 25)) hq6.2.1)
 clear hr5 hr6 hq5 hq6 hb I3 HM3 HN3 HX
 go_upto_region 5 with (fail)
 generalize W4.heap.size=b7 at *
 generalize W4.alloc (.cells #[.int .i64 X1,.slice A7 X2.length c7,.slice A8 X3.length c8] 25)=W5 at *
 have p0:=(blk_cell I4.out.bm 0).trans rfl
 have p1:=(blk_cell I4.out.bm 1).trans rfl
 have p2:=(blk_cell I4.out.bm 2).trans rfl
 have q0:=(blk_cell HY4.out 0).trans rfl
 have q1:=(blk_cell HY4.out 1).trans rfl
 have q2:=(blk_cell HY4.out 2).trans rfl
 have hc:=fleuronref27_Same.calls k X1 A5 c5 X2 A6 c6 X3 X1 A7 c7 X2 A8 c8 X3 true W5 I4.out.rc I4.out.lc I4.out.rr I4.out.lr HQ5.out.1 HQ5.out.2 HQ6.out.1 HQ6.out.2 HX2.out
 have hx4:(X4 == X4)=true:=beq_self_eq_true X4
 go_wp2_with fail
 refine hc.mono ?_
 clear hc p0 p1 p2 q0 q1 q2
 rintro e W6 ⟨rfl,hb⟩
 have HB:=aK (below_step I4.out.below hb)
 clear hb I4 HY4 HQ5 HQ6
 go_wp2_with fail
 refine (fleuronlaw27_awake.calls true _ rfl).mono ?_
 rintro e WZ ⟨rfl,hbz⟩
 go_wp2
 go_ret
 exact ⟨rfl,below_step HB.out hbz⟩
end Go.Proofs.YtoemkemmiikhlaaGreat.PF4
