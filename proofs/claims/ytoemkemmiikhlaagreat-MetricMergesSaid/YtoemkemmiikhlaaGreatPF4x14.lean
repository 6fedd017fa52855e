import Derived.Test.YtoemkemmiikhlaaGreatPF4x0
import Derived.Test.YtoemkemmiikhlaaGreatPF4x3
import Derived.Test.YtoemkemmiikhlaaGreatPF4x5
import Derived.Test.YtoemkemmiikhlaaGreatPF4x11
set_option maxRecDepth 100000
namespace Go.Proofs.YtoemkemmiikhlaaGreat.PF4
open Go.RowKit Go.Proofs.YtoemkemmiikhlaaGreatW.PrintWords Go.Proofs.YtoemkemmiikhlaaGreatW.PrintLast Go.Proofs.YtoemkemmiikhlaaGreatW.PrintMore
attribute [local go_sem] max2_int min2_int max_two min_two max_three min_three max_four min_four
set_option linter.unusedVariables false
set_option linter.unusedSimpArgs false
def boxStep (i:Nat) (o:Int×Int×Int) (c:S50):Int×Int×Int :=
 if i=0 then (wrap64 (o.1+c.f1),c.f2,c.f3) else (wrap64 (o.1+c.f1),max o.2.1 c.f2,max o.2.2 c.f3)
def boxFrom (fnd : Int → S50 × Int) : List Int → Nat → Int × Int × Int → (Int × Int × Int) × Int
 | [],_,o=>(o,0)
 | n::l,i,o=>if (fnd n).2=0 then boxFrom fnd l (i+1) (boxStep i o (fnd n).1) else ((0,0,0),(fnd n).2)
def boxM (sz:Int) (cs:List S50) (rs:List S45) (codes:List Int):(Int×Int×Int)×Int :=
 if validM sz cs rs && decide (codes.length≤2000) then boxFrom (findM sz cs rs) codes 0 (0,0,0) else ((0,0,0),2)
theorem drop_cons (l:List Int) (i:Nat) (h:i<l.length):l.drop i=rd l (i:Int)::l.drop (i+1):=by
 rw [List.drop_eq_getElem_cons h]
 simp [rd,h]
set_option maxHeartbeats 8000000 in
theorem box_calls (sz : Int) (A1 : Option Addr) (c1 : Nat) (cs : List S50) (A2 : Option Addr) (c2 : Nat) (rs : List S45) (A3 : Option Addr) (c3 : Nat) (codes : List Int) (w : World)
  (hr1:Kd.C k50 w A1 cs.length cs) (hr2:Kd.C k45 w A2 rs.length rs) (hr3:Kd.C (Kd.int .i64) w A3 codes.length codes) (hl1:cs.length≤1000000) (hl2:rs.length≤1000000) (hl3:codes.length≤1000000) :
  Calls Tryz.prog 26 #[.agg #[.int .i64 sz,.slice A1 cs.length c1,.slice A2 rs.length c2],.slice A3 codes.length c3] w fun e w'=>e = .returned (.tuple #[.agg #[.int .i64 (boxM sz cs rs codes).1.1,.int .i64 (boxM sz cs rs codes).1.2.1,.int .i64 (boxM sz cs rs codes).1.2.2],.int .i64 (boxM sz cs rs codes).2])∧Below w.heap.size w w':=by
 have hu:=Tryz.underlying25
 have hu47:=Tryz.underlying47
 have hu50:=Tryz.underlying50
 have HR1:=aK hr1
 have HR2:=aK hr2
 have HR3:=aK hr3
 have HL1:=aK hl1
 have HL2:=aK hl2
 have HL3:=aK hl3
 have HM:=aK (blk_alloc (blk_new w (.cells #[.int .i64 sz,.slice A1 cs.length c1,.slice A2 rs.length c2] 25)) (.cells #[.int .i64 0,.int .i64 0,.int .i64 0] 47))
 have hq:=blk_new (w.alloc (.cells #[.int .i64 sz,.slice A1 cs.length c1,.slice A2 rs.length c2] 25)) (.cells #[.int .i64 0,.int .i64 0,.int .i64 0] 47)
 simp only [World.size_alloc] at hq
 obtain ⟨b4,hb4⟩ : ∃ b4,b4=w.heap.size+1:=⟨_,rfl⟩
 rw [← hb4] at hq
 have HQ:=aK hq
 have HB:=aK (below_alloc (below_alloc (Below.refl w.heap.size w) (.cells #[.int .i64 sz,.slice A1 cs.length c1,.slice A2 rs.length c2] 25)) (.cells #[.int .i64 0,.int .i64 0,.int .i64 0] 47))
 have HLE:Aside0 (w.heap.size≤b4):=⟨by omega⟩
 have HBE:=aK hb4
 obtain ⟨r,hr⟩ : ∃ r,r=boxM sz cs rs codes:=⟨_,rfl⟩
 rw [← hr]
 have HF:=aK hr
 clear hr1 hr2 hr3 hl1 hl2 hl3 hq hb4 hr
 go_enter Tryz.func26,Tryz.ntmps26
 go_upto_region 1 with (fail)
 rw [← HBE.out]
 generalize (w.alloc (.cells #[.int .i64 sz,.slice A1 cs.length c1,.slice A2 rs.length c2] 25)).alloc (.cells #[.int .i64 0,.int .i64 0,.int .i64 0] 47)=V at *
 clear HBE
 have p0:=(blk_cell HM.out 0).trans rfl
 have p1:=(blk_cell HM.out 1).trans rfl
 have p2:=(blk_cell HM.out 2).trans rfl
 have hc:=valid_calls sz A1 c1 cs A2 c2 rs V (Kd.C_below HR1.out HB.out) (Kd.C_below HR2.out HB.out) (by have:=HL1.out;omega) (by have:=HL2.out;omega)
 cases hv:validM sz cs rs with
 | false =>
  have HO:Aside0 (r=((0,0,0),2)):=⟨by rw [HF.out,boxM,hv];rfl⟩
  rw [hv] at hc
  clear hv HF
  go_wp2_with fail
  refine hc.mono ?_
  clear hc p0 p1 p2
  rintro e W1 ⟨rfl,hb1⟩
  have HB1:=aK (below_step HB.out hb1)
  have HQ1:=aK (blk_below HQ.out hb1)
  clear hb1 HB HQ HM
  have q0:=blk_frozen HQ1.out 0
  have q1:=blk_frozen HQ1.out 1
  have q2:=blk_frozen HQ1.out 2
  have q4:=(blk_cell HQ1.out 0).trans rfl
  have q5:=(blk_cell HQ1.out 1).trans rfl
  have q6:=(blk_cell HQ1.out 2).trans rfl
  have X4:=aK (blk_put (blk_put (blk_put HQ1.out 0 (.int .i64 0) rfl) 1 (.int .i64 0) rfl) 2 (.int .i64 0) rfl)
  go_wp2
  refine bodyPost_ret (results_ct rfl _ _ b4 47 #[.int .i64 0,.int .i64 0,.int .i64 0] (0,0) _ rfl X4.out Tryz.underlying47 rfl (by kernel_rfl)) rfl ?_
  rw [HO.out]
  exact ⟨rfl,below_set (below_set (below_set HB1.out HLE.out) HLE.out) HLE.out⟩
 | true =>
  rw [hv] at hc
  by_cases hn:codes.length≤2000
  case neg =>
   have hni:(2000:Int)<(codes.length:Int):=by omega
   have hnb:decide ((2000:Int)<(codes.length:Int))=true:=decide_eq_true hni
   have hnn:decide (2000<codes.length)=true:=decide_eq_true (by omega)
   have HO:Aside0 (r=((0,0,0),2)):=⟨by rw [HF.out,boxM,hv,decide_eq_false hn];rfl⟩
   clear hv HF
   go_wp2_with fail
   refine hc.mono ?_
   clear hc p0 p1 p2
   rintro e W1 ⟨rfl,hb1⟩
   have HB1:=aK (below_step HB.out hb1)
   have HQ1:=aK (blk_below HQ.out hb1)
   clear hb1 HB HQ HM
   have q0:=blk_frozen HQ1.out 0
   have q1:=blk_frozen HQ1.out 1
   have q2:=blk_frozen HQ1.out 2
   have q4:=(blk_cell HQ1.out 0).trans rfl
   have q5:=(blk_cell HQ1.out 1).trans rfl
   have q6:=(blk_cell HQ1.out 2).trans rfl
   have X4:=aK (blk_put (blk_put (blk_put HQ1.out 0 (.int .i64 0) rfl) 1 (.int .i64 0) rfl) 2 (.int .i64 0) rfl)
   go_wp2
   refine bodyPost_ret (results_ct rfl _ _ b4 47 #[.int .i64 0,.int .i64 0,.int .i64 0] (0,0) _ rfl X4.out Tryz.underlying47 rfl (by kernel_rfl)) rfl ?_
   rw [HO.out]
   exact ⟨rfl,below_set (below_set (below_set HB1.out HLE.out) HLE.out) HLE.out⟩
  have hni : ¬ (2000:Int)<(codes.length:Int):=by omega
  have hnb:decide ((2000:Int)<(codes.length:Int))=false:=decide_eq_false hni
  have hnn:decide (2000<codes.length)=false:=decide_eq_false (by omega)
  have HF2:Aside0 (r=boxFrom (findM sz cs rs) (codes.drop 0) 0 (0,0,0)):=⟨by rw [HF.out,boxM,hv,decide_eq_true hn];rfl⟩
  have HVT:=aK hv
  clear hv HF
  go_wp2_with fail
  refine hc.mono ?_
  clear hc p0 p1 p2
  rintro e W1 ⟨rfl,hb1⟩
  have HB1:=aK (below_alloc (below_step HB.out hb1) (.cells #[.int .i64 0,.int .i64 0,.int .i64 0] 47))
  have HQ1:=aK (blk_alloc (blk_below HQ.out hb1) (.cells #[.int .i64 0,.int .i64 0,.int .i64 0] 47))
  have HM1:=aK (blk_alloc (blk_below HM.out hb1) (.cells #[.int .i64 0,.int .i64 0,.int .i64 0] 47))
  have HX1:=aK (blk_new W1 (.cells #[.int .i64 0,.int .i64 0,.int .i64 0] 47))
  have hne:b4<W1.heap.size:=Nat.lt_of_lt_of_le (blk_lt HQ.out) hb1.size
  obtain ⟨b6,hb6⟩ : ∃ b6,b6=W1.heap.size:=⟨_,rfl⟩
  have HX1:=HX1.out
  rw [← hb6] at HX1 hne
  have HX1:=aK HX1
  have HLE6:Aside0 (w.heap.size≤b6):=⟨by have:=HLE.out;omega⟩
  have HN46:Aside0 (b4≠b6):=⟨by omega⟩
  have HN26:Aside0 (w.heap.size≠b6):=⟨by have:=HLE.out;omega⟩
  have HBE:=aK hb6
  clear hb1 HB HQ HM hne hb6 hni hnb hnn
  go_upto_region 4 with (fail)
  rw [← HBE.out]
  generalize W1.alloc (.cells #[.int .i64 0,.int .i64 0,.int .i64 0] 47)=V1 at *
  clear HBE
  go_wp2
  go_loopg [22] codes.length (fun gg s22 wr=>∃ (i:Nat) (o1 o2 o3:Int),i≤codes.length∧codes.length-i≤gg∧s22 = .int .i64 i∧Aside0 (r=boxFrom (findM sz cs rs) (codes.drop i) i (o1,o2,o3))∧Aside0 (wr.heap[b6]?=some (.cells #[.int .i64 o1,.int .i64 o2,.int .i64 o3] 47 (0,0)))∧Aside0 (wr.heap[b4]?=some (.cells #[.int .i64 0,.int .i64 0,.int .i64 0] 47 (0,0)))∧Aside0 (wr.heap[w.heap.size]?=some (.cells #[.int .i64 sz,.slice A1 cs.length c1,.slice A2 rs.length c2] 25 (0,0)))∧Aside0 (Below w.heap.size w wr))
  case atStart=>exact ⟨0,0,0,0,by omega,by omega,rfl,HF2,HX1,HQ1,HM1,HB1⟩
  case round =>
   clear HF2 HX1 HQ1 HM1 HB1
   obtain ⟨i,o1,o2,o3,hi,hg,rfl,HI,HX,HQ,HM,HB⟩:=hrel
   by_cases hlt:i<codes.length
   ·have hlti:(i:Int)<(codes.length:Int):=by omega
    have hi0:(0:Int)≤(i:Int):=by omega
    obtain ⟨ad,rfl,hx⟩:=at_I HR3.out (i:Int) hi0 hlti
    simp only [Int.toNat_natCast] at hx
    replace hx:=(HB.out.cell (World.block_lt_of_cell? w _ hx)).trans hx
    have hst:boxFrom (findM sz cs rs) (codes.drop i) i (o1,o2,o3)=if (findM sz cs rs (rd codes (i:Int))).2=0 then boxFrom (findM sz cs rs) (codes.drop (i+1)) (i+1) (boxStep i (o1,o2,o3) (findM sz cs rs (rd codes (i:Int))).1) else ((0,0,0),(findM sz cs rs (rd codes (i:Int))).2):=by
     rw [drop_cons codes i hlt,boxFrom]
    have HST:Aside0 (r=if (findM sz cs rs (rd codes (i:Int))).2=0 then boxFrom (findM sz cs rs) (codes.drop (i+1)) (i+1) (boxStep i (o1,o2,o3) (findM sz cs rs (rd codes (i:Int))).1) else ((0,0,0),(findM sz cs rs (rd codes (i:Int))).2)):=⟨by rw [← hst];exact HI.out⟩
    have HC:=aK (fun V (h:Below w.heap.size w V)=>find_calls sz A1 c1 cs A2 c2 rs (rd codes (i:Int)) V (Kd.C_below HR1.out h) (Kd.C_below HR2.out h) HL1.out HL2.out)
    have HSTEP:=aK (show wrap64 ((i:Int)+1)=((i+1:Nat):Int) by have:=HL3.out;unfold wrap64;omega)
    generalize rd codes (i:Int)=n at *
    generalize findM sz cs rs n=f at *
    obtain ⟨x,er⟩:=f
    simp only at HST HC
    have p0:=(blk_cell HM.out 0).trans rfl
    have p1:=(blk_cell HM.out 1).trans rfl
    have p2:=(blk_cell HM.out 2).trans rfl
    clear hst HI
    go_wp2_with fail
    refine (HC.out _ HB.out).mono ?_
    clear p0 p1 p2 hx
    rintro e W2 ⟨rfl,hb2⟩
    have HB2:=aK (below_alloc (below_step HB.out hb2) (.cells #[.int .i64 x.f0,.int .i64 x.f1,.int .i64 x.f2,.int .i64 x.f3] 50))
    have HQ2:=aK (blk_alloc (blk_below HQ.out hb2) (.cells #[.int .i64 x.f0,.int .i64 x.f1,.int .i64 x.f2,.int .i64 x.f3] 50))
    have HM2:=aK (blk_alloc (blk_below HM.out hb2) (.cells #[.int .i64 x.f0,.int .i64 x.f1,.int .i64 x.f2,.int .i64 x.f3] 50))
    have HX2b:=aK (blk_below HX.out hb2)
    have HX2:=aK (blk_alloc (blk_below HX.out hb2) (.cells #[.int .i64 x.f0,.int .i64 x.f1,.int .i64 x.f2,.int .i64 x.f3] 50))
    have HY2:=aK (blk_new W2 (.cells #[.int .i64 x.f0,.int .i64 x.f1,.int .i64 x.f2,.int .i64 x.f3] 50))
    clear hb2 HB HQ HM HX
    go_upto_region 8 with (fail)
    have HN96:Aside0 (W2.heap.size≠b6):=⟨fun e=>by have h1:=blk_lt HX2b.out;omega⟩
    generalize hb9:W2.heap.size=b9 at *
    generalize W2.alloc (.cells #[.int .i64 x.f0,.int .i64 x.f1,.int .i64 x.f2,.int .i64 x.f3] 50)=V2 at *
    clear hb9 HX2b
    by_cases her:er=0
    ·have heb:(er == 0)=true:=by simpa using her
     subst her
     have y1:=(blk_cell HY2.out 1).trans rfl
     have y2:=(blk_cell HY2.out 2).trans rfl
     have y3:=(blk_cell HY2.out 3).trans rfl
     have z0:=(blk_cell HX2.out 0).trans rfl
     have z1:=(blk_cell HX2.out 1).trans rfl
     have z2:=(blk_cell HX2.out 2).trans rfl
     have HR12:Aside0 (r=boxFrom (findM sz cs rs) (codes.drop (i+1)) (i+1) (boxStep i (o1,o2,o3) x)):=⟨by rw [HST.out,if_pos rfl]⟩
     clear HST HC
     by_cases hz:i=0
     ·subst hz
      have HBX:Aside0 (boxStep 0 (o1,o2,o3) x=(wrap64 (o1+x.f1),x.f2,x.f3)):=⟨rfl⟩
      have P0:Aside0 (V2.drew.cell? ⟨b9,2,none⟩=some (.int .i64 x.f2)):=⟨y2⟩
      have P1:Aside0 (V2.drew.cell? ⟨b9,3,none⟩=some (.int .i64 x.f3)):=⟨y3⟩
      have HX4:=aK (blk_put HX2.out 1 (.int .i64 x.f2) rfl)
      have HX5:=aK (blk_drew (blk_put HX4.out 2 (.int .i64 x.f3) rfl))
      have hidx:((((0:Nat):Int)) == 0)=true:=rfl
      clear y1 y2 y3 z0 z1 z2
      go_upto_region 11 with (fail)
      refine start_ (n:=8) (S:=fun w'=>w'.cell? ⟨b9,2,none⟩=some (.int .i64 x.f2)∧w'.cell? ⟨b9,3,none⟩=some (.int .i64 x.f3)) (ds:=[7]) #[false,false,false,false,false,false,false,false] (by kernel_rfl) rfl rfl ⟨P0.out,P1.out⟩ (fun hHeld=>?_)
      refine pu 0 (some 39) ?_ rfl rfl (by kernel_rfl) (fun _ _ _ h=>h) (.inl ⟨by rfl,?_⟩) ?_ ?_ ?_;rotate_left;intro w';go_simp;with_reducible rfl;rotate_left;simp only [nS];rfl
      refine pu 2 (some 41) ?_ rfl rfl (by kernel_rfl) (fun _ _ _ h=>h) (.inl ⟨by rfl,?_⟩) ?_ ?_ ?_;rotate_left;intro w';go_simp;with_reducible rfl;rotate_left;simp only [nS];rfl
      refine tk 1 (some 40) ?_ rfl rfl (by kernel_rfl) (fun _ _ _ h=>h) (.inl ⟨by rfl,?_⟩) hHeld ?_ ?_ ?_;rotate_left;rintro w' ⟨s0,s1⟩;go_simp;with_reducible rfl;rotate_left;simp only [nS];rfl
      refine pu 4 (some 43) ?_ rfl rfl (by kernel_rfl) (fun _ _ _ h=>h) (.inl ⟨by rfl,?_⟩) ?_ ?_ ?_;rotate_left;intro w';go_simp;with_reducible rfl;rotate_left;simp only [nS];rfl
      refine tk 3 (some 42) ?_ rfl rfl (by kernel_rfl) (fun _ _ _ h=>h) (.inl ⟨by rfl,?_⟩) hHeld ?_ ?_ ?_;rotate_left;rintro w' ⟨s0,s1⟩;go_simp;with_reducible rfl;rotate_left;simp only [nS];rfl
      refine one_ (i:=5) (N:=none) #[true,true,true,true,true,true,false,false] rfl rfl (by kernel_rfl) (by decide) (fun K hK=>?_)
      have f0:=blk_frozen HX2.out 1
      have f1:=(blk_cell HX2.out 1).trans rfl
      refine skip_ (w1:=?_) (by rfl) rfl ?_ ?_
      rotate_left
      ·go_simp
       rfl
      clear f0 f1
      refine hK.out _ _ ⟨(blk_cell (blk_far (blk_drew HY2.out) HN96.out (p:=⟨b6,1,none⟩) (.int .i64 x.f2)) 2).trans rfl,(blk_cell (blk_far (blk_drew HY2.out) HN96.out (p:=⟨b6,1,none⟩) (.int .i64 x.f2)) 3).trans rfl⟩ (fun hHeld=>?_)
      clear hK K
      refine pu 6 (some 44) ?_ rfl rfl (by kernel_rfl) (fun _ _ _ h=>h) (.inl ⟨by rfl,?_⟩) ?_ ?_ ?_;rotate_left;intro w';go_simp;with_reducible rfl;rotate_left;simp only [nS];rfl
      refine last_ (i:=7) (N:=none) #[true,true,true,true,true,true,true,true] rfl rfl (by kernel_rfl) (by decide) (fun K hK=>?_)
      have f2:=blk_frozen HX2.out 2
      have f3:=(blk_cell HX2.out 2).trans rfl
      refine skip_ (w1:=?_) (by rfl) rfl ?_ ?_
      rotate_left
      ·go_simp
       rfl
      clear f2 f3
      refine hK.out _ _ ?_
      clear hK K
      refine done_ (by kernel_rfl) ?_
      have HB5:Aside0 (Below w.heap.size w ((V2.setCell ⟨b6,1,none⟩ (.int .i64 x.f2)).setCell ⟨b6,2,none⟩ (.int .i64 x.f3)).drew):=⟨below_drew1 (below_set (below_set HB2.out HLE6.out) HLE6.out)⟩
      have HQ5:=aK (blk_drew (blk_far (blk_far HQ2.out HN46.out (p:=⟨b6,1,none⟩) (.int .i64 x.f2)) HN46.out (p:=⟨b6,2,none⟩) (.int .i64 x.f3)))
      have HM5:=aK (blk_drew (blk_far (blk_far HM2.out HN26.out (p:=⟨b6,1,none⟩) (.int .i64 x.f2)) HN26.out (p:=⟨b6,2,none⟩) (.int .i64 x.f3)))
      have HY5:=aK (blk_drew (blk_far (blk_far HY2.out HN96.out (p:=⟨b6,1,none⟩) (.int .i64 x.f2)) HN96.out (p:=⟨b6,2,none⟩) (.int .i64 x.f3)))
      go_upto_region 12 with (fail)
      generalize ((V2.setCell ⟨b6,1,none⟩ (.int .i64 x.f2)).setCell ⟨b6,2,none⟩ (.int .i64 x.f3)).drew=V5 at *
      clear HX4 HX2 HY2 HQ2 HM2 HB2 P0 P1
      have y1:=(blk_cell HY5.out 1).trans rfl
      have y2:=(blk_cell HY5.out 2).trans rfl
      have y3:=(blk_cell HY5.out 3).trans rfl
      have q0:=blk_frozen HX5.out 0
      have q1:=blk_frozen HX5.out 1
      have q2:=blk_frozen HX5.out 2
      have q4:=(blk_cell HX5.out 0).trans rfl
      have q5:=(blk_cell HX5.out 1).trans rfl
      have q6:=(blk_cell HX5.out 2).trans rfl
      have HX6:=aK (blk_put (blk_put (blk_put HX5.out 0 (.int .i64 (wrap64 (o1+x.f1))) rfl) 1 (.int .i64 (x.f2)) rfl) 2 (.int .i64 (x.f3)) rfl)
      have HQ6:=aK (blk_far (blk_far (blk_far HQ5.out HN46.out (p:=⟨b6,0,none⟩) (.int .i64 (wrap64 (o1+x.f1)))) HN46.out (p:=⟨b6,1,none⟩) (.int .i64 (x.f2))) HN46.out (p:=⟨b6,2,none⟩) (.int .i64 (x.f3)))
      have HM6:=aK (blk_far (blk_far (blk_far HM5.out HN26.out (p:=⟨b6,0,none⟩) (.int .i64 (wrap64 (o1+x.f1)))) HN26.out (p:=⟨b6,1,none⟩) (.int .i64 (x.f2))) HN26.out (p:=⟨b6,2,none⟩) (.int .i64 (x.f3)))
      have HB6:=aK (below_set (below_set (below_set HB5.out HLE6.out) HLE6.out) HLE6.out:Below w.heap.size w (((V5.setCell ⟨b6,0,none⟩ (.int .i64 (wrap64 (o1+x.f1)))).setCell ⟨b6,1,none⟩ (.int .i64 (x.f2))).setCell ⟨b6,2,none⟩ (.int .i64 (x.f3))))
      go_wp2
      go_roundg (codes.length-(0+1))
      case measure=>omega
      case rel=>exact ⟨0+1,_,_,_,by omega,by omega,by first|exact congrArg (Value.int .i64) HSTEP.out|go_num,⟨by rw [HR12.out,HBX.out]⟩,HX6,HQ6,HM6,HB6⟩
     ·have hidx:((i:Int) == 0)=false:=by simpa using hz
      have hidx2:(i == 0)=false:=by simpa using hz
      have hidx3:decide ((i:Int)=0)=false:=by simpa using hz
      have hidx4:decide (i=0)=false:=by simpa using hz
      have hidx5 : ¬ (i:Int)=0:=by omega
      have HBX:Aside0 (boxStep i (o1,o2,o3) x=(wrap64 (o1+x.f1),max o2 x.f2,max o3 x.f3)):=⟨by unfold boxStep;rw [if_neg hz]⟩
      have HX5:=HX2
      have HY5:=HY2
      have HQ5:=HQ2
      have HM5:=HM2
      have HB5:=HB2
      clear y1 y2 y3 z0 z1 z2 HX2 HY2 HQ2 HM2 HB2
      go_upto_region 12 with (fail)
      generalize V2=V5 at *
      by_cases hm1:o2<x.f2
      ·have hm1n:o2<x.f2:=hm1
       by_cases hm2:o3<x.f3
       ·have hm2n:o3<x.f3:=hm2
        have HBX:Aside0 (boxStep i (o1,o2,o3) x=(wrap64 (o1+x.f1),x.f2,x.f3)):=⟨by rw [HBX.out,Int.max_eq_right (by omega),Int.max_eq_right (by omega)]⟩
        have y1:=(blk_cell HY5.out 1).trans rfl
        have y2:=(blk_cell HY5.out 2).trans rfl
        have y3:=(blk_cell HY5.out 3).trans rfl
        have q0:=blk_frozen HX5.out 0
        have q1:=blk_frozen HX5.out 1
        have q2:=blk_frozen HX5.out 2
        have q4:=(blk_cell HX5.out 0).trans rfl
        have q5:=(blk_cell HX5.out 1).trans rfl
        have q6:=(blk_cell HX5.out 2).trans rfl
        have HX6:=aK (blk_put (blk_put (blk_put HX5.out 0 (.int .i64 (wrap64 (o1+x.f1))) rfl) 1 (.int .i64 (x.f2)) rfl) 2 (.int .i64 (x.f3)) rfl)
        have HQ6:=aK (blk_far (blk_far (blk_far HQ5.out HN46.out (p:=⟨b6,0,none⟩) (.int .i64 (wrap64 (o1+x.f1)))) HN46.out (p:=⟨b6,1,none⟩) (.int .i64 (x.f2))) HN46.out (p:=⟨b6,2,none⟩) (.int .i64 (x.f3)))
        have HM6:=aK (blk_far (blk_far (blk_far HM5.out HN26.out (p:=⟨b6,0,none⟩) (.int .i64 (wrap64 (o1+x.f1)))) HN26.out (p:=⟨b6,1,none⟩) (.int .i64 (x.f2))) HN26.out (p:=⟨b6,2,none⟩) (.int .i64 (x.f3)))
        have HB6:=aK (below_set (below_set (below_set HB5.out HLE6.out) HLE6.out) HLE6.out:Below w.heap.size w (((V5.setCell ⟨b6,0,none⟩ (.int .i64 (wrap64 (o1+x.f1)))).setCell ⟨b6,1,none⟩ (.int .i64 (x.f2))).setCell ⟨b6,2,none⟩ (.int .i64 (x.f3))))
        go_wp2
        go_roundg (codes.length-(i+1))
        case measure=>omega
        case rel=>exact ⟨i+1,_,_,_,by omega,by omega,by first|exact congrArg (Value.int .i64) HSTEP.out|go_num,⟨by rw [HR12.out,HBX.out]⟩,HX6,HQ6,HM6,HB6⟩
       ·have hm2n : ¬ o3<x.f3:=hm2
        have HBX:Aside0 (boxStep i (o1,o2,o3) x=(wrap64 (o1+x.f1),x.f2,o3)):=⟨by rw [HBX.out,Int.max_eq_right (by omega),Int.max_eq_left (by omega)]⟩
        have y1:=(blk_cell HY5.out 1).trans rfl
        have y2:=(blk_cell HY5.out 2).trans rfl
        have y3:=(blk_cell HY5.out 3).trans rfl
        have q0:=blk_frozen HX5.out 0
        have q1:=blk_frozen HX5.out 1
        have q2:=blk_frozen HX5.out 2
        have q4:=(blk_cell HX5.out 0).trans rfl
        have q5:=(blk_cell HX5.out 1).trans rfl
        have q6:=(blk_cell HX5.out 2).trans rfl
        have HX6:=aK (blk_put (blk_put (blk_put HX5.out 0 (.int .i64 (wrap64 (o1+x.f1))) rfl) 1 (.int .i64 (x.f2)) rfl) 2 (.int .i64 (o3)) rfl)
        have HQ6:=aK (blk_far (blk_far (blk_far HQ5.out HN46.out (p:=⟨b6,0,none⟩) (.int .i64 (wrap64 (o1+x.f1)))) HN46.out (p:=⟨b6,1,none⟩) (.int .i64 (x.f2))) HN46.out (p:=⟨b6,2,none⟩) (.int .i64 (o3)))
        have HM6:=aK (blk_far (blk_far (blk_far HM5.out HN26.out (p:=⟨b6,0,none⟩) (.int .i64 (wrap64 (o1+x.f1)))) HN26.out (p:=⟨b6,1,none⟩) (.int .i64 (x.f2))) HN26.out (p:=⟨b6,2,none⟩) (.int .i64 (o3)))
        have HB6:=aK (below_set (below_set (below_set HB5.out HLE6.out) HLE6.out) HLE6.out:Below w.heap.size w (((V5.setCell ⟨b6,0,none⟩ (.int .i64 (wrap64 (o1+x.f1)))).setCell ⟨b6,1,none⟩ (.int .i64 (x.f2))).setCell ⟨b6,2,none⟩ (.int .i64 (o3))))
        go_wp2
        go_roundg (codes.length-(i+1))
        case measure=>omega
        case rel=>exact ⟨i+1,_,_,_,by omega,by omega,by first|exact congrArg (Value.int .i64) HSTEP.out|go_num,⟨by rw [HR12.out,HBX.out]⟩,HX6,HQ6,HM6,HB6⟩
      ·have hm1n : ¬ o2<x.f2:=hm1
       by_cases hm2:o3<x.f3
       ·have hm2n:o3<x.f3:=hm2
        have HBX:Aside0 (boxStep i (o1,o2,o3) x=(wrap64 (o1+x.f1),o2,x.f3)):=⟨by rw [HBX.out,Int.max_eq_left (by omega),Int.max_eq_right (by omega)]⟩
        have y1:=(blk_cell HY5.out 1).trans rfl
        have y2:=(blk_cell HY5.out 2).trans rfl
        have y3:=(blk_cell HY5.out 3).trans rfl
        have q0:=blk_frozen HX5.out 0
        have q1:=blk_frozen HX5.out 1
        have q2:=blk_frozen HX5.out 2
        have q4:=(blk_cell HX5.out 0).trans rfl
        have q5:=(blk_cell HX5.out 1).trans rfl
        have q6:=(blk_cell HX5.out 2).trans rfl
        have HX6:=aK (blk_put (blk_put (blk_put HX5.out 0 (.int .i64 (wrap64 (o1+x.f1))) rfl) 1 (.int .i64 (o2)) rfl) 2 (.int .i64 (x.f3)) rfl)
        have HQ6:=aK (blk_far (blk_far (blk_far HQ5.out HN46.out (p:=⟨b6,0,none⟩) (.int .i64 (wrap64 (o1+x.f1)))) HN46.out (p:=⟨b6,1,none⟩) (.int .i64 (o2))) HN46.out (p:=⟨b6,2,none⟩) (.int .i64 (x.f3)))
        have HM6:=aK (blk_far (blk_far (blk_far HM5.out HN26.out (p:=⟨b6,0,none⟩) (.int .i64 (wrap64 (o1+x.f1)))) HN26.out (p:=⟨b6,1,none⟩) (.int .i64 (o2))) HN26.out (p:=⟨b6,2,none⟩) (.int .i64 (x.f3)))
        have HB6:=aK (below_set (below_set (below_set HB5.out HLE6.out) HLE6.out) HLE6.out:Below w.heap.size w (((V5.setCell ⟨b6,0,none⟩ (.int .i64 (wrap64 (o1+x.f1)))).setCell ⟨b6,1,none⟩ (.int .i64 (o2))).setCell ⟨b6,2,none⟩ (.int .i64 (x.f3))))
        go_wp2
        go_roundg (codes.length-(i+1))
        case measure=>omega
        case rel=>exact ⟨i+1,_,_,_,by omega,by omega,by first|exact congrArg (Value.int .i64) HSTEP.out|go_num,⟨by rw [HR12.out,HBX.out]⟩,HX6,HQ6,HM6,HB6⟩
       ·have hm2n : ¬ o3<x.f3:=hm2
        have HBX:Aside0 (boxStep i (o1,o2,o3) x=(wrap64 (o1+x.f1),o2,o3)):=⟨by rw [HBX.out,Int.max_eq_left (by omega),Int.max_eq_left (by omega)]⟩
        have y1:=(blk_cell HY5.out 1).trans rfl
        have y2:=(blk_cell HY5.out 2).trans rfl
        have y3:=(blk_cell HY5.out 3).trans rfl
        have q0:=blk_frozen HX5.out 0
        have q1:=blk_frozen HX5.out 1
        have q2:=blk_frozen HX5.out 2
        have q4:=(blk_cell HX5.out 0).trans rfl
        have q5:=(blk_cell HX5.out 1).trans rfl
        have q6:=(blk_cell HX5.out 2).trans rfl
        have HX6:=aK (blk_put (blk_put (blk_put HX5.out 0 (.int .i64 (wrap64 (o1+x.f1))) rfl) 1 (.int .i64 (o2)) rfl) 2 (.int .i64 (o3)) rfl)
        have HQ6:=aK (blk_far (blk_far (blk_far HQ5.out HN46.out (p:=⟨b6,0,none⟩) (.int .i64 (wrap64 (o1+x.f1)))) HN46.out (p:=⟨b6,1,none⟩) (.int .i64 (o2))) HN46.out (p:=⟨b6,2,none⟩) (.int .i64 (o3)))
        have HM6:=aK (blk_far (blk_far (blk_far HM5.out HN26.out (p:=⟨b6,0,none⟩) (.int .i64 (wrap64 (o1+x.f1)))) HN26.out (p:=⟨b6,1,none⟩) (.int .i64 (o2))) HN26.out (p:=⟨b6,2,none⟩) (.int .i64 (o3)))
        have HB6:=aK (below_set (below_set (below_set HB5.out HLE6.out) HLE6.out) HLE6.out:Below w.heap.size w (((V5.setCell ⟨b6,0,none⟩ (.int .i64 (wrap64 (o1+x.f1)))).setCell ⟨b6,1,none⟩ (.int .i64 (o2))).setCell ⟨b6,2,none⟩ (.int .i64 (o3))))
        go_wp2
        go_roundg (codes.length-(i+1))
        case measure=>omega
        case rel=>exact ⟨i+1,_,_,_,by omega,by omega,by first|exact congrArg (Value.int .i64) HSTEP.out|go_num,⟨by rw [HR12.out,HBX.out]⟩,HX6,HQ6,HM6,HB6⟩
    ·have heb:(er == 0)=false:=by simpa using her
     have HO:Aside0 (r=((0,0,0),er)):=⟨by rw [HST.out,if_neg her]⟩
     have q0:=blk_frozen HQ2.out 0
     have q1:=blk_frozen HQ2.out 1
     have q2:=blk_frozen HQ2.out 2
     have q4:=(blk_cell HQ2.out 0).trans rfl
     have q5:=(blk_cell HQ2.out 1).trans rfl
     have q6:=(blk_cell HQ2.out 2).trans rfl
     have X4:=aK (blk_put (blk_put (blk_put HQ2.out 0 (.int .i64 0) rfl) 1 (.int .i64 0) rfl) 2 (.int .i64 0) rfl)
     go_wp2
     refine bodyPost_ret (results_ct rfl _ _ b4 47 #[.int .i64 0,.int .i64 0,.int .i64 0] (0,0) _ rfl X4.out Tryz.underlying47 rfl (by kernel_rfl)) rfl ?_
     rw [HO.out]
     exact ⟨rfl,below_set (below_set (below_set HB2.out HLE.out) HLE.out) HLE.out⟩
   ·have hlti : ¬ (i:Int)<(codes.length:Int):=by omega
    have HO:Aside0 (r=((o1,o2,o3),0)):=⟨by rw [HI.out,List.drop_eq_nil_of_le (by omega)];rfl⟩
    have z0:=(blk_cell HX.out 0).trans rfl
    have z1:=(blk_cell HX.out 1).trans rfl
    have z2:=(blk_cell HX.out 2).trans rfl
    have q0:=blk_frozen HQ.out 0
    have q1:=blk_frozen HQ.out 1
    have q2:=blk_frozen HQ.out 2
    have q4:=(blk_cell HQ.out 0).trans rfl
    have q5:=(blk_cell HQ.out 1).trans rfl
    have q6:=(blk_cell HQ.out 2).trans rfl
    have X4:=aK (blk_put (blk_put (blk_put HQ.out 0 (.int .i64 o1) rfl) 1 (.int .i64 o2) rfl) 2 (.int .i64 o3) rfl)
    go_wp2
    refine bodyPost_ret (results_ct rfl _ _ b4 47 #[.int .i64 o1,.int .i64 o2,.int .i64 o3] (0,0) _ rfl X4.out Tryz.underlying47 rfl (by kernel_rfl)) rfl ?_
    rw [HO.out]
    exact ⟨rfl,below_set (below_set (below_set HB.out HLE.out) HLE.out) HLE.out⟩
set_option maxHeartbeats 4000000 in
theorem grow4C_calls (n : Int) (w : World) (hn0 : 0 ≤ n) (hn : n < 4398046511104) :
  Calls Tryz.prog 96 #[.slice none 0 0,.int .i64 n] w fun e w'=>∃ v0_:Value,e = .returned (v0_)∧Kd.R k50 50 w' w.heap.size (fun _=>True) v0_ []∧Below w.heap.size w w':=by
 obtain ⟨i0,hi0,_,hsz,_⟩:=info_parts info50
 have hcut0:=cut_to (P:=Tryz.prog) 22 50 .i64 Tryz.underlying22 hi0 none 0 0 0 (by omega) (by omega) (by omega)
 have hcut1:=fun (A:Option Addr) (m c:Nat) (h:m≤c)=>cut_to (P:=Tryz.prog) 22 50 .i64 Tryz.underlying22 hi0 A m c 0 (by omega) (by omega) h
 have hq:decide (n<0)=false:=decide_eq_false (by omega)
 have hw:wrap64 n=n:=by unfold wrap64;omega
 have HN:=aK (show 0≤n∧n<4398046511104 from ⟨hn0,hn⟩)
 by_cases h0:n=0
 ·subst h0
  go_enter Tryz.func96,Tryz.ntmps96
  go_wp2
  go_ret
  exact ⟨_,rfl,Kd.R_nil _ _ _ _ _,Below.refl _ _⟩
 ·have hp:decide (0<n)=true:=decide_eq_true (by omega)
  have HC:=aK hcut1
  have HW:=aK hw
  clear hcut1 hn hn0 h0
  go_enter Tryz.func96,Tryz.ntmps96
  go_wp2_with ((with_reducible refine gate_builtin (b:=.append) (xs:=#[.tmp 20,.tmp 21]) rfl ?_);at_builtin;refine Kd.R_append_zeros k50 (w0:=w) w.heap.size rfl (.tmp 20) (.tmp 21) 22 3 50 (.agg #[(.int .i64 0),(.int .i64 0),(.int .i64 0),(.int .i64 0)]) 32 rfl Tryz.underlying22 Tryz.underlying3 info50 rfl (by decide) (by omega) (.slice none 0 0) [] z50 (wrap64 n) (fun _=>True) rfl rfl ?aZ (fun _ _=>trivial) ?aO (by rw [HW.out];exact HN.out.1) ?aB ?aS ?aL ?_;(case aZ=>exact k50_mkM _ _ _ z50);(case aO=>exact Kd.R_nil _ _ _ _ _);(case aB=>first|exact Below.refl _ _|exact below_drew1 (Below.refl _ _));(case aS=>simp);(case aL=>have:=HN.out;rw [HW.out];simp only [List.length_nil];omega);intro v1 w1 ho hb hg hat;obtain ⟨A1,c1,rfl⟩:=Kd.R_slice ho;have hc:=HC.out A1 _ c1 (Kd.R_reads' ho).2.1;have HO:=aK ho;have HB:=aK hb;clear ho hb hg hat HC)
  go_ret
  exact ⟨_,rfl,Kd.R_take HO.out (Nat.zero_le _),HB.out⟩
theorem take_nextC (l0:List (List S50)) (kk:Nat) (h:kk<l0.length):(l0.take (kk+1)).flatten=(l0.take kk).flatten++rd_L2 l0 (kk:Int):=by
 rw [List.take_add_one,List.flatten_append]
 congr 1
 rw [List.getElem?_eq_getElem h]
 simp [rd_L2,h]
theorem take_flatC (l0:List (List S50)) (kk:Nat):(l0.take kk).flatten.length≤l0.flatten.length:=by
 conv=>rhs;rw [← List.take_append_drop kk l0,List.flatten_append,List.length_append]
 omega
def api_CharMetric_67.f (l0:List (List S50)):Option (List S50):=if l0.length<4398046511104∧l0.flatten.length<4398046511104 then some l0.flatten else none
set_option maxHeartbeats 4000000 in
theorem api_CharMetric_67.calls (A0 : Option Addr) (c0 : Nat) (l0 : List (List S50)) (r : List S50) (w : World) (hr0 : Kd.C (Kd.slice 50 k50) w A0 l0.length l0) (hc0 : l0.length ≤ c0) (h : api_CharMetric_67.f l0 = some r) :
  Calls Tryz.prog 67 #[.slice A0 l0.length c0] w fun e w'=>∃ v0_:Value,e = .returned (v0_)∧Kd.R k50 50 w' w.heap.size (fun _=>True) v0_ r∧Below w.heap.size w w':=by
 unfold api_CharMetric_67.f at h
 by_cases hl:l0.length<4398046511104∧l0.flatten.length<4398046511104
 ·rw [if_pos hl] at h
  obtain rfl:l0.flatten=r:=Option.some.inj h
  have HR0:=aK hr0
  have HL:=aK hl
  have HB0:=aK (Below.refl w.heap.size w)
  clear hr0 h hl hc0
  go_enter Tryz.func67,Tryz.ntmps67
  go_wp2
  go_loopg [3,5,11] l0.length (fun gg s3 s5 s11 wr=>∃ (kk:Nat) (sz:Int),kk≤l0.length∧l0.length-kk≤gg∧s3 = .int .i64 sz∧s11 = .int .i64 kk∧Aside0 (sz=((l0.take kk).flatten.length:Int))∧Aside0 (Below w.heap.size w wr))
  case atStart=>exact ⟨0,0,Nat.zero_le _,by omega,rfl,rfl,⟨by simp⟩,⟨by first|exact HB0.out|exact below_drew1 HB0.out⟩⟩
  case round =>
   obtain ⟨kk,sz,hkk,hg,rfl,rfl,HS,HB⟩:=hrel
   by_cases hlt:kk<l0.length
   ·have hlti:(kk:Int)<(l0.length:Int):=by omega
    obtain ⟨ad,A1,c1,rfl,hx,hlx,hix⟩:=at_L2 HR0.out (kk:Int) (by omega) hlti
    replace hx:=(HB.out.cell (World.block_lt_of_cell? w _ hx)).trans hx
    simp only [Int.toNat_natCast] at hx
    obtain ⟨sz',hsz'⟩ : ∃ s:Int,s=((l0.take (kk+1)).flatten.length:Int):=⟨_,rfl⟩
    have hn:=take_nextC l0 kk hlt
    have hle:=take_flatC l0 (kk+1)
    have hstep:wrap64 (sz+((rd_L2 l0 (kk:Int)).length:Int))=sz':=by
     rw [hsz',hn,List.length_append,HS.out]
     rw [hn,List.length_append] at hle
     have:=HL.out.2
     unfold wrap64
     omega
    have hneg:decide (sz'<0)=false:=decide_eq_false (by omega)
    have HSZ:=aK hsz'
    generalize rd_L2 l0 (kk:Int)=x at *
    clear hn hle hsz' hix hlx
    go_wp2
    go_roundg (l0.length-(kk+1))
    case measure=>omega
    case rel=>exact ⟨kk+1,sz',by omega,by omega,congrArg (Value.int .i64) hstep,congrArg (Value.int .i64) (show wrap64 ((kk:Int)+1)=((kk+1:Nat):Int) by have:=HL.out.1;unfold wrap64;omega),HSZ,⟨by first|exact HB.out|exact below_drew1 HB.out⟩⟩
   ·have hlti : ¬ (kk:Int)<(l0.length:Int):=by omega
    obtain rfl:kk=l0.length:=by omega
    have hsz0:0≤sz∧sz<4398046511104:=by
     rw [HS.out,List.take_of_length_le (Nat.le_refl _)]
     exact ⟨by omega,by have:=HL.out.2;omega⟩
    go_wp2_with fail
    refine (grow4C_calls sz _ hsz0.1 hsz0.2).mono ?_
    rintro e W2 ⟨v0,rfl,ho,hb⟩
    have HO:=aK (Kd.R_lower ho (below_size (by first|exact HB.out|exact below_drew1 HB.out)))
    have HB2:=aK (below_step (by first|exact HB.out|exact below_drew1 HB.out) hb)
    clear ho hb HB HS hsz0
    obtain ⟨A9,c9,rfl⟩:=Kd.R_slice HO.out
    go_wp2
    go_loopg [6,8,27] l0.length (fun gg s6 s8 s27 wr=>∃ (kk:Nat),kk≤l0.length∧l0.length-kk≤gg∧s27 = .int .i64 kk∧Aside0 (Kd.R k50 50 wr w.heap.size (fun _=>True) s6 (l0.take kk).flatten)∧Aside0 (Below w.heap.size w wr))
    case atStart=>exact ⟨0,Nat.zero_le _,by omega,rfl,⟨by simpa using HO.out⟩,⟨by first|exact HB2.out|exact below_drew1 HB2.out⟩⟩
    case round =>
     clear HO HB2
     obtain ⟨kk,hkk,hg,rfl,HO,HB⟩:=hrel
     by_cases hlt:kk<l0.length
     ·have hlti:(kk:Int)<(l0.length:Int):=by omega
      obtain ⟨ad,A1,c1,rfl,hx,hlx,hix⟩:=at_L2 HR0.out (kk:Int) (by omega) hlti
      replace hx:=(HB.out.cell (World.block_lt_of_cell? w _ hx)).trans hx
      simp only [Int.toNat_natCast] at hx
      have hn:=take_nextC l0 kk hlt
      have hle:=take_flatC l0 (kk+1)
      rw [hn,List.length_append] at hle
      have HN:=aK hn
      have HLE:=aK hle
      have HI:=aK hix
      generalize rd_L2 l0 (kk:Int)=x at *
      have HKS:=aK (show wrap64 ((kk:Int)+1)=((kk+1:Nat):Int) by have:=HL.out.1;unfold wrap64;omega)
      clear hn hle hix hlx
      have HY:=aK (show (l0.take kk).flatten++x=(l0.take (kk+1)).flatten from HN.out.symm)
      generalize hys:(l0.take (kk+1)).flatten=ys at HY
      generalize hxs:(l0.take kk).flatten=xs at HO HLE HY
      obtain ⟨A8,c8,rfl⟩:=Kd.R_slice HO.out
      have HYS:=aK hys
      clear HN hys hxs
      go_wp2_with ((with_reducible refine gate_builtin (b:=.append) (xs:=#[.tmp 31,.tmp 32]) rfl ?_);at_builtin;refine Kd.R_append_rows k50 (w0:=w) w.heap.size rfl (.tmp 31) (.tmp 32) 22 50 (.agg #[(.int .i64 0),(.int .i64 0),(.int .i64 0),(.int .i64 0)]) 32 rfl Tryz.underlying22 info50 rfl (by decide) (by omega) (.slice A8 xs.length c8) xs x _ _ _ (fun _=>True) (fun _=>False) rfl rfl ?aO ?aR (fun _ _ h=>h) (fun _ h=>h.elim) (fun _ _=>trivial) ?aB ?aS ?aL ?_;(case aR=>repeat (first|exact (Kd.C_below HI.out HB.out)|(with_reducible refine Kd.C_alloc ?_ _)|(with_reducible refine Kd.C_drewN ?_ _)|(with_reducible refine Kd.C_drew ?_)));(case aB=>first|exact HB.out|exact below_drew1 HB.out|exact below_drew1 (below_drew1 HB.out));(case aO=>(with_reducible repeat (first|apply Kd.R_alloc|apply Kd.R_drewN|apply Kd.R_drew));exact HO.out);(case aS=>exact (below_size (by first|exact HB.out|exact below_drew1 HB.out|exact below_drew1 (below_drew1 HB.out))));(case aL=>have:=HLE.out;have:=HL.out;omega);intro v1 w1 ho hb hg hat;rw [HY.out] at ho;obtain ⟨A7,c7,rfl⟩:=Kd.R_slice ho;have HO1:=aK ho;have HB1:=aK hb;clear ho hb hg hat)
      go_roundg (l0.length-(kk+1))
      case measure=>omega
      case rel=>exact ⟨kk+1,by omega,by omega,congrArg (Value.int .i64) HKS.out,⟨by rw [HYS.out];(with_reducible repeat (first|apply Kd.R_alloc|apply Kd.R_drewN|apply Kd.R_drew));exact HO1.out⟩,⟨by first|exact HB1.out|exact below_drew1 HB1.out⟩⟩
     ·have hlti : ¬ (kk:Int)<(l0.length:Int):=by omega
      obtain rfl:kk=l0.length:=by omega
      have hxs:(l0.take l0.length).flatten=l0.flatten:=by rw [List.take_of_length_le (Nat.le_refl _)]
      rw [hxs] at HO
      obtain ⟨xs,hf⟩ : ∃ xs,l0.flatten=xs:=⟨_,rfl⟩
      rw [hf] at HO
      have HF:=aK hf
      clear hf hxs
      obtain ⟨A8,c8,rfl⟩:=Kd.R_slice HO.out
      go_wp2
      go_ret
      exact ⟨_,rfl,by rw [HF.out];exact HO.out,HB.out⟩
 ·rw [if_neg hl] at h
  exact absurd h (by simp)
set_option maxHeartbeats 4000000 in
theorem grow4R_calls (n : Int) (w : World) (hn0 : 0 ≤ n) (hn : n < 4398046511104) :
  Calls Tryz.prog 97 #[.slice none 0 0,.int .i64 n] w fun e w'=>∃ v0_:Value,e = .returned (v0_)∧Kd.R k45 45 w' w.heap.size (fun _=>True) v0_ []∧Below w.heap.size w w':=by
 obtain ⟨i0,hi0,_,hsz,_⟩:=info_parts info45
 have hcut0:=cut_to (P:=Tryz.prog) 23 45 .i64 Tryz.underlying23 hi0 none 0 0 0 (by omega) (by omega) (by omega)
 have hcut1:=fun (A:Option Addr) (m c:Nat) (h:m≤c)=>cut_to (P:=Tryz.prog) 23 45 .i64 Tryz.underlying23 hi0 A m c 0 (by omega) (by omega) h
 have hq:decide (n<0)=false:=decide_eq_false (by omega)
 have hw:wrap64 n=n:=by unfold wrap64;omega
 have HN:=aK (show 0≤n∧n<4398046511104 from ⟨hn0,hn⟩)
 by_cases h0:n=0
 ·subst h0
  go_enter Tryz.func97,Tryz.ntmps97
  go_wp2
  go_ret
  exact ⟨_,rfl,Kd.R_nil _ _ _ _ _,Below.refl _ _⟩
 ·have hp:decide (0<n)=true:=decide_eq_true (by omega)
  have HC:=aK hcut1
  have HW:=aK hw
  clear hcut1 hn hn0 h0
  go_enter Tryz.func97,Tryz.ntmps97
  go_wp2_with ((with_reducible refine gate_builtin (b:=.append) (xs:=#[.tmp 20,.tmp 21]) rfl ?_);at_builtin;refine Kd.R_append_zeros k45 (w0:=w) w.heap.size rfl (.tmp 20) (.tmp 21) 23 3 45 (.agg #[(.int .i64 0),(.int .i64 0),(.int .i64 0),(.int .i64 0)]) 32 rfl Tryz.underlying23 Tryz.underlying3 info45 rfl (by decide) (by omega) (.slice none 0 0) [] z45 (wrap64 n) (fun _=>True) rfl rfl ?aZ (fun _ _=>trivial) ?aO (by rw [HW.out];exact HN.out.1) ?aB ?aS ?aL ?_;(case aZ=>exact k45_mkM _ _ _ z45);(case aO=>exact Kd.R_nil _ _ _ _ _);(case aB=>first|exact Below.refl _ _|exact below_drew1 (Below.refl _ _));(case aS=>simp);(case aL=>have:=HN.out;rw [HW.out];simp only [List.length_nil];omega);intro v1 w1 ho hb hg hat;obtain ⟨A1,c1,rfl⟩:=Kd.R_slice ho;have hc:=HC.out A1 _ c1 (Kd.R_reads' ho).2.1;have HO:=aK ho;have HB:=aK hb;clear ho hb hg hat HC)
  go_ret
  exact ⟨_,rfl,Kd.R_take HO.out (Nat.zero_le _),HB.out⟩
theorem take_nextR (l0:List (List S45)) (kk:Nat) (h:kk<l0.length):(l0.take (kk+1)).flatten=(l0.take kk).flatten++rd_L4 l0 (kk:Int):=by
 rw [List.take_add_one,List.flatten_append]
 congr 1
 rw [List.getElem?_eq_getElem h]
 simp [rd_L4,h]
theorem take_flatR (l0:List (List S45)) (kk:Nat):(l0.take kk).flatten.length≤l0.flatten.length:=by
 conv=>rhs;rw [← List.take_append_drop kk l0,List.flatten_append,List.length_append]
 omega
def api_LigRule_68.f (l0:List (List S45)):Option (List S45):=if l0.length<4398046511104∧l0.flatten.length<4398046511104 then some l0.flatten else none
set_option maxHeartbeats 4000000 in
theorem api_LigRule_68.calls (A0 : Option Addr) (c0 : Nat) (l0 : List (List S45)) (r : List S45) (w : World) (hr0 : Kd.C (Kd.slice 45 k45) w A0 l0.length l0) (hc0 : l0.length ≤ c0) (h : api_LigRule_68.f l0 = some r) :
  Calls Tryz.prog 68 #[.slice A0 l0.length c0] w fun e w'=>∃ v0_:Value,e = .returned (v0_)∧Kd.R k45 45 w' w.heap.size (fun _=>True) v0_ r∧Below w.heap.size w w':=by
 unfold api_LigRule_68.f at h
 by_cases hl:l0.length<4398046511104∧l0.flatten.length<4398046511104
 ·rw [if_pos hl] at h
  obtain rfl:l0.flatten=r:=Option.some.inj h
  have HR0:=aK hr0
  have HL:=aK hl
  have HB0:=aK (Below.refl w.heap.size w)
  clear hr0 h hl hc0
  go_enter Tryz.func68,Tryz.ntmps68
  go_wp2
  go_loopg [3,5,11] l0.length (fun gg s3 s5 s11 wr=>∃ (kk:Nat) (sz:Int),kk≤l0.length∧l0.length-kk≤gg∧s3 = .int .i64 sz∧s11 = .int .i64 kk∧Aside0 (sz=((l0.take kk).flatten.length:Int))∧Aside0 (Below w.heap.size w wr))
  case atStart=>exact ⟨0,0,Nat.zero_le _,by omega,rfl,rfl,⟨by simp⟩,⟨by first|exact HB0.out|exact below_drew1 HB0.out⟩⟩
  case round =>
   obtain ⟨kk,sz,hkk,hg,rfl,rfl,HS,HB⟩:=hrel
   by_cases hlt:kk<l0.length
   ·have hlti:(kk:Int)<(l0.length:Int):=by omega
    obtain ⟨ad,A1,c1,rfl,hx,hlx,hix⟩:=at_L4 HR0.out (kk:Int) (by omega) hlti
    replace hx:=(HB.out.cell (World.block_lt_of_cell? w _ hx)).trans hx
    simp only [Int.toNat_natCast] at hx
    obtain ⟨sz',hsz'⟩ : ∃ s:Int,s=((l0.take (kk+1)).flatten.length:Int):=⟨_,rfl⟩
    have hn:=take_nextR l0 kk hlt
    have hle:=take_flatR l0 (kk+1)
    have hstep:wrap64 (sz+((rd_L4 l0 (kk:Int)).length:Int))=sz':=by
     rw [hsz',hn,List.length_append,HS.out]
     rw [hn,List.length_append] at hle
     have:=HL.out.2
     unfold wrap64
     omega
    have hneg:decide (sz'<0)=false:=decide_eq_false (by omega)
    have HSZ:=aK hsz'
    generalize rd_L4 l0 (kk:Int)=x at *
    clear hn hle hsz' hix hlx
    go_wp2
    go_roundg (l0.length-(kk+1))
    case measure=>omega
    case rel=>exact ⟨kk+1,sz',by omega,by omega,congrArg (Value.int .i64) hstep,congrArg (Value.int .i64) (show wrap64 ((kk:Int)+1)=((kk+1:Nat):Int) by have:=HL.out.1;unfold wrap64;omega),HSZ,⟨by first|exact HB.out|exact below_drew1 HB.out⟩⟩
   ·have hlti : ¬ (kk:Int)<(l0.length:Int):=by omega
    obtain rfl:kk=l0.length:=by omega
    have hsz0:0≤sz∧sz<4398046511104:=by
     rw [HS.out,List.take_of_length_le (Nat.le_refl _)]
     exact ⟨by omega,by have:=HL.out.2;omega⟩
    go_wp2_with fail
    refine (grow4R_calls sz _ hsz0.1 hsz0.2).mono ?_
    rintro e W2 ⟨v0,rfl,ho,hb⟩
    have HO:=aK (Kd.R_lower ho (below_size (by first|exact HB.out|exact below_drew1 HB.out)))
    have HB2:=aK (below_step (by first|exact HB.out|exact below_drew1 HB.out) hb)
    clear ho hb HB HS hsz0
    obtain ⟨A9,c9,rfl⟩:=Kd.R_slice HO.out
    go_wp2
    go_loopg [6,8,27] l0.length (fun gg s6 s8 s27 wr=>∃ (kk:Nat),kk≤l0.length∧l0.length-kk≤gg∧s27 = .int .i64 kk∧Aside0 (Kd.R k45 45 wr w.heap.size (fun _=>True) s6 (l0.take kk).flatten)∧Aside0 (Below w.heap.size w wr))
    case atStart=>exact ⟨0,Nat.zero_le _,by omega,rfl,⟨by simpa using HO.out⟩,⟨by first|exact HB2.out|exact below_drew1 HB2.out⟩⟩
    case round =>
     clear HO HB2
     obtain ⟨kk,hkk,hg,rfl,HO,HB⟩:=hrel
     by_cases hlt:kk<l0.length
     ·have hlti:(kk:Int)<(l0.length:Int):=by omega
      obtain ⟨ad,A1,c1,rfl,hx,hlx,hix⟩:=at_L4 HR0.out (kk:Int) (by omega) hlti
      replace hx:=(HB.out.cell (World.block_lt_of_cell? w _ hx)).trans hx
      simp only [Int.toNat_natCast] at hx
      have hn:=take_nextR l0 kk hlt
      have hle:=take_flatR l0 (kk+1)
      rw [hn,List.length_append] at hle
      have HN:=aK hn
      have HLE:=aK hle
      have HI:=aK hix
      generalize rd_L4 l0 (kk:Int)=x at *
      have HKS:=aK (show wrap64 ((kk:Int)+1)=((kk+1:Nat):Int) by have:=HL.out.1;unfold wrap64;omega)
      clear hn hle hix hlx
      have HY:=aK (show (l0.take kk).flatten++x=(l0.take (kk+1)).flatten from HN.out.symm)
      generalize hys:(l0.take (kk+1)).flatten=ys at HY
      generalize hxs:(l0.take kk).flatten=xs at HO HLE HY
      obtain ⟨A8,c8,rfl⟩:=Kd.R_slice HO.out
      have HYS:=aK hys
      clear HN hys hxs
      go_wp2_with ((with_reducible refine gate_builtin (b:=.append) (xs:=#[.tmp 31,.tmp 32]) rfl ?_);at_builtin;refine Kd.R_append_rows k45 (w0:=w) w.heap.size rfl (.tmp 31) (.tmp 32) 23 45 (.agg #[(.int .i64 0),(.int .i64 0),(.int .i64 0),(.int .i64 0)]) 32 rfl Tryz.underlying23 info45 rfl (by decide) (by omega) (.slice A8 xs.length c8) xs x _ _ _ (fun _=>True) (fun _=>False) rfl rfl ?aO ?aR (fun _ _ h=>h) (fun _ h=>h.elim) (fun _ _=>trivial) ?aB ?aS ?aL ?_;(case aR=>repeat (first|exact (Kd.C_below HI.out HB.out)|(with_reducible refine Kd.C_alloc ?_ _)|(with_reducible refine Kd.C_drewN ?_ _)|(with_reducible refine Kd.C_drew ?_)));(case aB=>first|exact HB.out|exact below_drew1 HB.out|exact below_drew1 (below_drew1 HB.out));(case aO=>(with_reducible repeat (first|apply Kd.R_alloc|apply Kd.R_drewN|apply Kd.R_drew));exact HO.out);(case aS=>exact (below_size (by first|exact HB.out|exact below_drew1 HB.out|exact below_drew1 (below_drew1 HB.out))));(case aL=>have:=HLE.out;have:=HL.out;omega);intro v1 w1 ho hb hg hat;rw [HY.out] at ho;obtain ⟨A7,c7,rfl⟩:=Kd.R_slice ho;have HO1:=aK ho;have HB1:=aK hb;clear ho hb hg hat)
      go_roundg (l0.length-(kk+1))
      case measure=>omega
      case rel=>exact ⟨kk+1,by omega,by omega,congrArg (Value.int .i64) HKS.out,⟨by rw [HYS.out];(with_reducible repeat (first|apply Kd.R_alloc|apply Kd.R_drewN|apply Kd.R_drew));exact HO1.out⟩,⟨by first|exact HB1.out|exact below_drew1 HB1.out⟩⟩
     ·have hlti : ¬ (kk:Int)<(l0.length:Int):=by omega
      obtain rfl:kk=l0.length:=by omega
      have hxs:(l0.take l0.length).flatten=l0.flatten:=by rw [List.take_of_length_le (Nat.le_refl _)]
      rw [hxs] at HO
      obtain ⟨xs,hf⟩ : ∃ xs,l0.flatten=xs:=⟨_,rfl⟩
      rw [hf] at HO
      have HF:=aK hf
      clear hf hxs
      obtain ⟨A8,c8,rfl⟩:=Kd.R_slice HO.out
      go_wp2
      go_ret
      exact ⟨_,rfl,by rw [HF.out];exact HO.out,HB.out⟩
 ·rw [if_neg hl] at h
  exact absurd h (by simp)
end Go.Proofs.YtoemkemmiikhlaaGreat.PF4
