import Derived.Test.YtckjlckhjcbddaaGreatPG3x0
namespace Go.Proofs.YtckjlckhjcbddaaGreat.PG3
open Go.RowKit Go.Proofs.YtckjlckhjcbddaaGreatW.PrintWords Go.Proofs.YtckjlckhjcbddaaGreatW.PrintLast Go.Proofs.YtckjlckhjcbddaaGreatW.PrintMore
attribute [local go_sem] max2_int min2_int max_two min_two max_three min_three max_four min_four
set_option linter.unusedVariables false
set_option linter.unusedSimpArgs false
def fleuronref19_Spans.l0:Nat→List Bool→List (S23)→List Bool→Int→Int→Option ((List (S23)))
 | 0,_,_,_,_,_=>none
 | k+1,x0,x3,x6,x7,x8=>if x8<x7 then (if 0≤x8 then (if x8<(x6.length:Int) then (if rdOf false x6 x8=true then (if x8>0 then (if 0≤(wrap64 (x8-1)) then (if (wrap64 (x8-1))<(x0.length:Int) then (if rdOf false x0 (wrap64 (x8-1))=true then (if 0≤(wrap64 ((x3.length:Int)-1)) then (if (wrap64 ((x3.length:Int)-1))<(x3.length:Int) then (fleuronref19_Spans.l0 k x0 (x3.set ((wrap64 ((x3.length:Int)-1)):Int).toNat (⟨(rd_T23 x3 (wrap64 ((x3.length:Int)-1))).f0,wrap64 (x8+1)⟩:S23)) x6 x7 (wrap64 (x8+1))) else (none)) else (none)) else (if x3.length<8796093022208 then (fleuronref19_Spans.l0 k x0 (x3++[(⟨x8,wrap64 (x8+1)⟩:S23)]) x6 x7 (wrap64 (x8+1))) else (none))) else (none)) else (none)) else (if x3.length<8796093022208 then (fleuronref19_Spans.l0 k x0 (x3++[(⟨x8,wrap64 (x8+1)⟩:S23)]) x6 x7 (wrap64 (x8+1))) else (none))) else (fleuronref19_Spans.l0 k x0 x3 x6 x7 (wrap64 (x8+1)))) else (none)) else (none)) else (some x3)
def fleuronref19_Spans.f (k:Nat) (l0:List Bool):Option ((List (S23))):=fleuronref19_Spans.l0 k l0 ([]:List (S23)) l0 (l0.length:Int) 0
theorem fleuronref19_Spans.mono_l : ∀ k,(∀ y0 y1 y2 y3 y4,LeO (fleuronref19_Spans.l0 k y0 y1 y2 y3 y4) (fleuronref19_Spans.l0 (k+1) y0 y1 y2 y3 y4))
 | 0=>fun _ _ _ _ _ r h=>by simp [fleuronref19_Spans.l0] at h
 | k+1=>by
  have ih0:=fleuronref19_Spans.mono_l k
  ·intro y0 y1 y2 y3 y4
   unfold fleuronref19_Spans.l0
   repeat' first
   | (with_reducible exact ih0 _ _ _ _ _)
   | (with_reducible exact LeO.refl _)
   | (with_reducible exact LeO.none _)
   | (with_reducible refine LeO.ite ?_ ?_)
   | (with_reducible refine LeO.bind ?_ (fun _=>?_))
   | exact ih0 _ _ _ _ _
   | exact LeO.none _
   | refine LeO.ite ?_ ?_
   | refine LeO.bind ?_ (fun _=>?_)
theorem fleuronref19_Spans.mono : ∀ a0 k,LeO (fleuronref19_Spans.f k a0) (fleuronref19_Spans.f (k+1) a0):=by
 intro a0 k
 have ih0:=fleuronref19_Spans.mono_l k
 unfold fleuronref19_Spans.f
 repeat' first
   | (with_reducible exact ih0 _ _ _ _ _)
   | (with_reducible exact LeO.refl _)
   | (with_reducible exact LeO.none _)
   | (with_reducible refine LeO.ite ?_ ?_)
   | (with_reducible refine LeO.bind ?_ (fun _=>?_))
   | exact ih0 _ _ _ _ _
   | exact LeO.none _
   | refine LeO.ite ?_ ?_
   | refine LeO.bind ?_ (fun _=>?_)
set_option maxHeartbeats 8000000 in
set_option maxRecDepth 100000 in
theorem fleuronref19_Spans.calls (k:Nat) (A0:Option Addr) (c0:Nat) (l0:List Bool) (r:List (S23)) (w:World) (hr0:Kd.C Kd.bool w A0 l0.length l0) (hc0:l0.length≤c0) (h:fleuronref19_Spans.f k l0=some r) :
  Calls Tryz.prog 38 #[.slice A0 l0.length c0] w fun e w'=>∃ v0_:Value,e = .returned (v0_)∧Kd.R k23 23 w' w.heap.size (fun _=>True) v0_ r∧Below w.heap.size w w':=by
 have hu23:=Tryz.underlying23
 have HR0:=aK hr0
 have HC0:=aK hc0
 clear hr0 hc0
 have HB:=aK (Below.refl w.heap.size w)
 have H:(fleuronref19_Spans.l0 k l0 ([]:List (S23)) l0 (l0.length:Int) 0)=some r:=h
 clear h
 have H':=aK H
 clear H
 go_enter Tryz.func38,Tryz.ntmps38
 go_wp2
 go_loopg [3,8] k (fun kq v3 v8 w'=>∃ (x3_1:List (S23)) (x8_1:Int),v8 = .int .i64 x8_1∧Aside0 (fleuronref19_Spans.l0 kq l0 x3_1 l0 (l0.length:Int) x8_1=some r)∧Aside0 (kq≤k)∧Aside0 (Kd.R k23 23 w' w.heap.size (fun _=>True) v3 x3_1)∧Aside0 (Below w.heap.size w w'))
 case atStart=>exact ⟨(([]:List (S23))),(0),(by first|rfl|(simp;done)|(simp [*];done)),H',⟨Nat.le_refl _⟩,⟨by first|exact Kd.R_nil _ _ _ _ _|exact Kd.N_nil _ _ _ _ _|exact Kd.V_nil _ _ _ _ _|exact Kd.Q_nil _ _ _ _ _|exact Kd.S_nil _ _ _ _ _⟩,⟨by repeat (first|(with_reducible first|exact HB.out|apply below_alloc|apply pw_below_drewN|apply below_drew1)|exact HB.out)⟩⟩
 case round =>
  clear H'
  obtain ⟨x3_1,x8_1,rfl,HA,HK1,HO_3,HB⟩:=hrel
  cases gk with
  | zero=>exact absurd HA.out (by simp [fleuronref19_Spans.l0])
  | succ k1 =>
   have H:=HA.out
   clear HA
   simp only [fleuronref19_Spans.l0] at H
   by_cases c2:x8_1<(l0.length:Int)
   ·rw [if_pos c2] at H
    have c2b0:decide (x8_1<(l0.length:Int))=true:=decide_eq_true c2
    clear c2
    by_cases c3:0≤x8_1
    ·rw [if_pos c3] at H
     have c3b0:decide (0≤x8_1)=true:=decide_eq_true c3
     clear c3
     by_cases c4:x8_1<(l0.length:Int)
     ·rw [if_pos c4] at H
      have c4b0:decide (x8_1<(l0.length:Int))=true:=decide_eq_true c4
      clear c4
      obtain ⟨bq5,hbq5⟩ : ∃ b_:Bool,b_=(rdOf false l0 x8_1):=⟨_,rfl⟩
      replace H:(if bq5=true then (if x8_1>0 then (if 0≤(wrap64 (x8_1-1)) then (if (wrap64 (x8_1-1))<(l0.length:Int) then (if rdOf false l0 (wrap64 (x8_1-1))=true then (if 0≤(wrap64 ((x3_1.length:Int)-1)) then (if (wrap64 ((x3_1.length:Int)-1))<(x3_1.length:Int) then (fleuronref19_Spans.l0 k1 l0 (x3_1.set ((wrap64 ((x3_1.length:Int)-1)):Int).toNat (⟨(rd_T23 x3_1 (wrap64 ((x3_1.length:Int)-1))).f0,wrap64 (x8_1+1)⟩:S23)) l0 (l0.length:Int) (wrap64 (x8_1+1))) else (none)) else (none)) else (if x3_1.length<8796093022208 then (fleuronref19_Spans.l0 k1 l0 (x3_1++[(⟨x8_1,wrap64 (x8_1+1)⟩:S23)]) l0 (l0.length:Int) (wrap64 (x8_1+1))) else (none))) else (none)) else (none)) else (if x3_1.length<8796093022208 then (fleuronref19_Spans.l0 k1 l0 (x3_1++[(⟨x8_1,wrap64 (x8_1+1)⟩:S23)]) l0 (l0.length:Int) (wrap64 (x8_1+1))) else (none))) else (fleuronref19_Spans.l0 k1 l0 x3_1 l0 (l0.length:Int) (wrap64 (x8_1+1))))=some r:=by rw [← hbq5] at H;exact H
      have Nbq5:=aK hbq5
      clear hbq5
      by_cases c6:bq5=true
      ·subst c6
       have H1:(if x8_1>0 then (if 0≤(wrap64 (x8_1-1)) then (if (wrap64 (x8_1-1))<(l0.length:Int) then (if rdOf false l0 (wrap64 (x8_1-1))=true then (if 0≤(wrap64 ((x3_1.length:Int)-1)) then (if (wrap64 ((x3_1.length:Int)-1))<(x3_1.length:Int) then (fleuronref19_Spans.l0 k1 l0 (x3_1.set ((wrap64 ((x3_1.length:Int)-1)):Int).toNat (⟨(rd_T23 x3_1 (wrap64 ((x3_1.length:Int)-1))).f0,wrap64 (x8_1+1)⟩:S23)) l0 (l0.length:Int) (wrap64 (x8_1+1))) else (none)) else (none)) else (if x3_1.length<8796093022208 then (fleuronref19_Spans.l0 k1 l0 (x3_1++[(⟨x8_1,wrap64 (x8_1+1)⟩:S23)]) l0 (l0.length:Int) (wrap64 (x8_1+1))) else (none))) else (none)) else (none)) else (if x3_1.length<8796093022208 then (fleuronref19_Spans.l0 k1 l0 (x3_1++[(⟨x8_1,wrap64 (x8_1+1)⟩:S23)]) l0 (l0.length:Int) (wrap64 (x8_1+1))) else (none)))=some r:=by rw [if_pos rfl] at H;exact H
       clear H
       have H:=H1
       clear H1
       by_cases c7:x8_1>0
       ·rw [if_pos c7] at H
        have c7b0:decide (0<x8_1)=true:=decide_eq_true c7
        clear c7
        obtain ⟨ji8,hji8⟩ : ∃ j_:Int,(wrap64 (x8_1-1))=j_:=⟨_,rfl⟩
        replace H:(if 0≤(ji8) then (if (ji8)<(l0.length:Int) then (if rdOf false l0 (ji8)=true then (if 0≤(wrap64 ((x3_1.length:Int)-1)) then (if (wrap64 ((x3_1.length:Int)-1))<(x3_1.length:Int) then (fleuronref19_Spans.l0 k1 l0 (x3_1.set ((wrap64 ((x3_1.length:Int)-1)):Int).toNat (⟨(rd_T23 x3_1 (wrap64 ((x3_1.length:Int)-1))).f0,wrap64 (x8_1+1)⟩:S23)) l0 (l0.length:Int) (wrap64 (x8_1+1))) else (none)) else (none)) else (if x3_1.length<8796093022208 then (fleuronref19_Spans.l0 k1 l0 (x3_1++[(⟨x8_1,wrap64 (x8_1+1)⟩:S23)]) l0 (l0.length:Int) (wrap64 (x8_1+1))) else (none))) else (none)) else (none))=some r:=by first|(rw [hji8] at H;exact H)|(simp only [hji8] at H ⊢;exact H)
        have hji8w:(IntKind.i64.wrap (x8_1-1))=ji8:=(i64_w _).trans hji8
        by_cases c9:0≤(ji8)
        ·rw [if_pos c9] at H
         have c9b0:decide (0≤(ji8))=true:=decide_eq_true c9
         clear c9
         by_cases c10:(ji8)<(l0.length:Int)
         ·rw [if_pos c10] at H
          have c10b0:decide ((ji8)<(l0.length:Int))=true:=decide_eq_true c10
          clear c10
          obtain ⟨bq11,hbq11⟩ : ∃ b_:Bool,b_=(rdOf false l0 (ji8)):=⟨_,rfl⟩
          replace H:(if bq11=true then (if 0≤(wrap64 ((x3_1.length:Int)-1)) then (if (wrap64 ((x3_1.length:Int)-1))<(x3_1.length:Int) then (fleuronref19_Spans.l0 k1 l0 (x3_1.set ((wrap64 ((x3_1.length:Int)-1)):Int).toNat (⟨(rd_T23 x3_1 (wrap64 ((x3_1.length:Int)-1))).f0,wrap64 (x8_1+1)⟩:S23)) l0 (l0.length:Int) (wrap64 (x8_1+1))) else (none)) else (none)) else (if x3_1.length<8796093022208 then (fleuronref19_Spans.l0 k1 l0 (x3_1++[(⟨x8_1,wrap64 (x8_1+1)⟩:S23)]) l0 (l0.length:Int) (wrap64 (x8_1+1))) else (none)))=some r:=by rw [← hbq11] at H;exact H
          have Nbq11:=aK hbq11
          clear hbq11
          by_cases c12:bq11=true
          ·subst c12
           have H1:(if 0≤(wrap64 ((x3_1.length:Int)-1)) then (if (wrap64 ((x3_1.length:Int)-1))<(x3_1.length:Int) then (fleuronref19_Spans.l0 k1 l0 (x3_1.set ((wrap64 ((x3_1.length:Int)-1)):Int).toNat (⟨(rd_T23 x3_1 (wrap64 ((x3_1.length:Int)-1))).f0,wrap64 (x8_1+1)⟩:S23)) l0 (l0.length:Int) (wrap64 (x8_1+1))) else (none)) else (none))=some r:=by rw [if_pos rfl] at H;exact H
           clear H
           have H:=H1
           clear H1
           obtain ⟨ji13,hji13⟩ : ∃ j_:Int,(wrap64 ((x3_1.length:Int)-1))=j_:=⟨_,rfl⟩
           replace H:(if 0≤(ji13) then (if (ji13)<(x3_1.length:Int) then (fleuronref19_Spans.l0 k1 l0 (x3_1.set ((ji13):Int).toNat (⟨(rd_T23 x3_1 (ji13)).f0,wrap64 (x8_1+1)⟩:S23)) l0 (l0.length:Int) (wrap64 (x8_1+1))) else (none)) else (none))=some r:=by first|(rw [hji13] at H;exact H)|(simp only [hji13] at H ⊢;exact H)
           have hji13w:(IntKind.i64.wrap ((x3_1.length:Int)-1))=ji13:=(i64_w _).trans hji13
           by_cases c14:0≤(ji13)
           ·rw [if_pos c14] at H
            have c14b0:decide (0≤(ji13))=true:=decide_eq_true c14
            clear c14
            by_cases c15:(ji13)<(x3_1.length:Int)
            ·rw [if_pos c15] at H
             have c15b0:decide ((ji13)<(x3_1.length:Int))=true:=decide_eq_true c15
             clear c15
             obtain ⟨y215,hy215⟩ : ∃ y_:List (S23),y_=(x3_1.set ((ji13):Int).toNat (⟨(rd_T23 x3_1 (ji13)).f0,wrap64 (x8_1+1)⟩:S23)):=⟨_,rfl⟩
             replace H:(fleuronref19_Spans.l0 k1 l0 y215 l0 (l0.length:Int) (wrap64 (x8_1+1)))=some r:=by first|(rw [hy215];with_reducible exact H)|(have H2_:=(Option.bind_some _ _).symm.trans H;rw [hy215];with_reducible exact H2_)|(have H2_:=(Option.bind_some _ _).symm.trans H;with_reducible exact H2_)|with_reducible exact H|(rw [hy215];exact H)|exact H
             have Ny215:=aK hy215
             clear hy215
             have H':=aK H
             clear H
             have p213:0≤(x8_1:Int):=of_decide_eq_true (by first|(with_reducible assumption)|assumption)
             have q213:x8_1<(l0.length:Int):=of_decide_eq_true (by first|(with_reducible assumption)|assumption)
             obtain ⟨ad213,e213,hx213_0⟩:=Kd.at_bool HR0.out x8_1 p213 q213
             (try rw [← Nbq5.out] at hx213_0)
             (try rw [← Nbq11.out] at hx213_0)
             cases e213
             replace hx213_0:=(HB.out.cell (World.block_lt_of_cell? w _ hx213_0)).trans hx213_0
             replace p213:=eq_true p213
             replace q213:=eq_true q213
             have p214:0≤((ji8):Int):=of_decide_eq_true (by first|(with_reducible assumption)|assumption)
             have q214:(ji8)<(l0.length:Int):=of_decide_eq_true (by first|(with_reducible assumption)|assumption)
             obtain ⟨ad214,e214,hx214_0⟩:=Kd.at_bool HR0.out (ji8) p214 q214
             (try rw [← Nbq5.out] at hx214_0)
             (try rw [← Nbq11.out] at hx214_0)
             obtain rfl:ad213=ad214:=(by injection e214)
             replace hx214_0:=(HB.out.cell (World.block_lt_of_cell? w _ hx214_0)).trans hx214_0
             replace p214:=eq_true p214
             replace q214:=eq_true q214
             obtain ⟨Ao17,co17,eo17⟩:=Kd.R_slice HO_3.out
             subst eo17
             have p16:0≤((ji13):Int):=of_decide_eq_true (by first|(with_reducible assumption)|assumption)
             have q16:((ji13):Int)<((x3_1.length:Int):Int):=of_decide_eq_true (by first|(with_reducible assumption)|assumption)
             obtain ⟨go16,co16,eo16,gb16,gl16,cl16,HG16⟩:=Kd.R_form HO_3.out (by omega)
             (first|cases eo16|(injection eo16 with ea_ en_ ec_;(first|subst ea_|(injection ea_ with ea_;subst ea_));subst ec_;clear en_))
             have GB16:=aK gb16
             have GG16:=aK HG16
             clear gb16 gl16 HG16
             obtain ⟨ce16,hcl16,hM16,hcc16,hfr16⟩:=Kd.R_elem HO_3.out z23 ((ji13):Int) p16 q16
             obtain rfl:=k23_openM hM16
             have hx16_0:wr.cell? ⟨go16,((ji13):Int).toNat*2,none⟩=some (.int .i64 ((rd_T23 x3_1 (ji13)).f0)):=hcc16 0 _ rfl
             have hx16_1:wr.cell? ⟨go16,((ji13):Int).toNat*2+1,none⟩=some (.int .i64 ((rd_T23 x3_1 (ji13)).f1)):=hcc16 1 _ rfl
             have hf16_0:wr.frozen? ⟨go16,((ji13):Int).toNat*2,none⟩=false:=hfr16 0
             have hf16_1:wr.frozen? ⟨go16,((ji13):Int).toNat*2+1,none⟩=false:=hfr16 1
             clear hcl16 hcc16 hfr16 hM16
             replace p16:=eq_true p16
             replace q16:=eq_true q16
             have HX18:=aK (show Kd.R k23 23 wr w.heap.size (fun _=>True) (.slice (some ⟨go16,0,none⟩) x3_1.length co17) x3_1 from (by (with_reducible repeat (first|apply Kd.R_alloc|apply Kd.R_drewN|apply Kd.R_drew));exact HO_3.out))
             obtain ⟨ce18,hcl18,hM18,hcc18,hfr18⟩:=Kd.R_elem HX18.out z23 ((ji13):Int) (of_decide_eq_true (by first|(with_reducible assumption)|assumption)) (by have h_:((ji13):Int)<((x3_1.length:Int):Int):=of_decide_eq_true (by first|(with_reducible assumption)|assumption);first|exact h_|(have e_:=(Kd.R_reads' HO_3.out).1;omega)|simpa using h_)
             obtain rfl:=k23_openM hM18
             have HP18:=Kd.R_seg HX18.out ((ji13):Int) (of_decide_eq_true (by first|(with_reducible assumption)|assumption)) (by have h_:((ji13):Int)<((x3_1.length:Int):Int):=of_decide_eq_true (by first|(with_reducible assumption)|assumption);first|exact h_|(have e_:=(Kd.R_reads' HO_3.out).1;omega)|simpa using h_) (seg:=[.int .i64 (wrap64 (x8_1+1))]) (j:=1) hcl18 hcc18 (show 2≤2 from by decide) (x':=(⟨(rd_T23 x3_1 (ji13)).f0,wrap64 (x8_1+1)⟩:S23)) (k23_mkM _ _ _ (⟨(rd_T23 x3_1 (ji13)).f0,wrap64 (x8_1+1)⟩:S23) ) (fun _ hk=>hk)
             have hx18_1:=hcc18 1 _ rfl
             (try simp only [show (k23).sz=2 from rfl,Nat.mul_one,Nat.add_zero] at hx18_1)
             have hf18_1:=hfr18 1
             (try simp only [show (k23).sz=2 from rfl,Nat.mul_one,Nat.add_zero] at hf18_1)
             clear hcl18 hcc18 hfr18 hM18
             go_wp2_with ((with_reducible refine gate_store (t:=3) (p:=40) rfl ?_);refine store_event (t:=3) (p:=40) (v:=?vo_w19) (w1:=(wr.setCell ⟨go16,((ji13):Int).toNat*2+1,none⟩ (.int .i64 (wrap64 (x8_1+1))))) ?hg ?ho ?hn ?hr ?_;(case ho=>rfl);(case hg=>rfl);(case hn=>rfl);(case hr=>first|(go_simp;done)|(go_simp;rfl));intro w19 hw;have hg:wr.grownBy w19 (some go16):=(by rw [hw];exact HP18.2);have hp_:Kd.R k23 23 w19 w.heap.size (fun _=>True) (.slice (some ⟨go16,0,none⟩) x3_1.length co17) y215:=(by rw [hw,Ny215.out];exact HP18.1);clear HP18;have n0_:=aK (hp_);have n1_:=aK ((by rw [hw];exact below_set (HB.out) GB16.out:Below w.heap.size w w19));clear HO_3;clear HB;have HO_3:=n0_;have HB:=n1_;clear n0_ n1_;clear hg hw hp_)
             go_roundg k1
             case measure=>have:=HK1.out;omega
             case rel=>exact ⟨(y215),(wrap64 (x8_1+1)),(by first|rfl|(simp;done)|(simp [*];done)),H',⟨by have:=HK1.out;omega⟩,⟨by (with_reducible repeat (first|apply Kd.R_alloc|apply Kd.R_drewN|apply Kd.R_drew));exact HO_3.out⟩,⟨by repeat (first|(with_reducible first|exact HB.out|apply below_alloc|apply pw_below_drewN|apply below_drew1)|exact HB.out)⟩⟩
            ·rw [if_neg c15] at H
             exact absurd H (by simp)
           ·rw [if_neg c14] at H
            exact absurd H (by simp)
          ·replace c12:=Bool.eq_false_iff.mpr c12
           subst c12
           have H1:(if x3_1.length<8796093022208 then (fleuronref19_Spans.l0 k1 l0 (x3_1++[(⟨x8_1,wrap64 (x8_1+1)⟩:S23)]) l0 (l0.length:Int) (wrap64 (x8_1+1))) else (none))=some r:=by rw [if_neg (show ¬ (false=true) by decide)] at H;exact H
           clear H
           have H:=H1
           clear H1
           by_cases c20:x3_1.length<8796093022208
           ·rw [if_pos c20] at H
            have LMc20:=aK c20
            clear c20
            obtain ⟨y216,hy216⟩ : ∃ y_:List (S23),y_=(x3_1++[(⟨x8_1,wrap64 (x8_1+1)⟩:S23)]):=⟨_,rfl⟩
            replace H:(fleuronref19_Spans.l0 k1 l0 y216 l0 (l0.length:Int) (wrap64 (x8_1+1)))=some r:=by first|(rw [hy216];with_reducible exact H)|(have H2_:=(Option.bind_some _ _).symm.trans H;rw [hy216];with_reducible exact H2_)|(have H2_:=(Option.bind_some _ _).symm.trans H;with_reducible exact H2_)|with_reducible exact H|(rw [hy216];exact H)|exact H
            have Ny216:=aK hy216
            clear hy216
            have H':=aK H
            clear H
            have p213:0≤(x8_1:Int):=of_decide_eq_true (by first|(with_reducible assumption)|assumption)
            have q213:x8_1<(l0.length:Int):=of_decide_eq_true (by first|(with_reducible assumption)|assumption)
            obtain ⟨ad213,e213,hx213_0⟩:=Kd.at_bool HR0.out x8_1 p213 q213
            (try rw [← Nbq5.out] at hx213_0)
            (try rw [← Nbq11.out] at hx213_0)
            cases e213
            replace hx213_0:=(HB.out.cell (World.block_lt_of_cell? w _ hx213_0)).trans hx213_0
            replace p213:=eq_true p213
            replace q213:=eq_true q213
            have p214:0≤((ji8):Int):=of_decide_eq_true (by first|(with_reducible assumption)|assumption)
            have q214:(ji8)<(l0.length:Int):=of_decide_eq_true (by first|(with_reducible assumption)|assumption)
            obtain ⟨ad214,e214,hx214_0⟩:=Kd.at_bool HR0.out (ji8) p214 q214
            (try rw [← Nbq5.out] at hx214_0)
            (try rw [← Nbq11.out] at hx214_0)
            obtain rfl:ad213=ad214:=(by injection e214)
            replace hx214_0:=(HB.out.cell (World.block_lt_of_cell? w _ hx214_0)).trans hx214_0
            replace p214:=eq_true p214
            replace q214:=eq_true q214
            go_wp2_with ((with_reducible refine gate_builtin (b:=.append) (xs:=#[.tmp 13,.tmp 18]) rfl ?_);at_builtin;refine Kd.R_append k23 (w0:=w) w.heap.size rfl (.tmp 13) (.tmp 18) 26 23 (.agg #[(.int .i64 0),(.int .i64 0)]) 16 rfl Tryz.underlying26 info23 rfl (by decide) (by omega) u3 x3_1 (⟨x8_1,wrap64 (x8_1+1)⟩:S23) [.int .i64 x8_1,.int .i64 (wrap64 (x8_1+1))] (fun _=>True) (fun _=>False) rfl rfl ?aP (fun _ hk=>hk.elim) ?aF ?aO ?aB ?aS ?aL ?_;(case aP=>exact k23_mkM _ _ _ (⟨x8_1,wrap64 (x8_1+1)⟩:S23));(case aB=>exact (by repeat (first|(with_reducible first|exact HB.out|apply below_alloc|apply pw_below_drewN|apply below_drew1)|exact HB.out)));(case aF=>exact (fun _ _=>trivial));(case aO=>exact (by (with_reducible repeat (first|apply Kd.R_alloc|apply Kd.R_drewN|apply Kd.R_drew));exact HO_3.out));(case aS=>exact (below_size (by repeat (first|(with_reducible first|exact HB.out|apply below_alloc|apply pw_below_drewN|apply below_drew1)|exact HB.out))));(case aL=>have:=LMc20.out;omega);intro v217 w21 ho hb hg hat;rw [← Ny216.out] at ho;have n0_:=aK (hb);have n1_:=aK (ho);clear HB;clear HO_3;have HB:=n0_;have HO218:=n1_;clear n0_ n1_;clear ho hb hg hat)
            go_roundg k1
            case measure=>have:=HK1.out;omega
            case rel=>exact ⟨(y216),(wrap64 (x8_1+1)),(by first|rfl|(simp;done)|(simp [*];done)),H',⟨by have:=HK1.out;omega⟩,⟨by (with_reducible repeat (first|apply Kd.R_alloc|apply Kd.R_drewN|apply Kd.R_drew));exact HO218.out⟩,⟨by repeat (first|(with_reducible first|exact HB.out|apply below_alloc|apply pw_below_drewN|apply below_drew1)|exact HB.out)⟩⟩
           ·rw [if_neg c20] at H
            exact absurd H (by simp)
         ·rw [if_neg c10] at H
          exact absurd H (by simp)
        ·rw [if_neg c9] at H
         exact absurd H (by simp)
       ·rw [if_neg c7] at H
        have c7b0:decide (0<x8_1)=false:=decide_eq_false c7
        clear c7
        by_cases c22:x3_1.length<8796093022208
        ·rw [if_pos c22] at H
         have LMc22:=aK c22
         clear c22
         obtain ⟨y219,hy219⟩ : ∃ y_:List (S23),y_=(x3_1++[(⟨x8_1,wrap64 (x8_1+1)⟩:S23)]):=⟨_,rfl⟩
         replace H:(fleuronref19_Spans.l0 k1 l0 y219 l0 (l0.length:Int) (wrap64 (x8_1+1)))=some r:=by first|(rw [hy219];with_reducible exact H)|(have H2_:=(Option.bind_some _ _).symm.trans H;rw [hy219];with_reducible exact H2_)|(have H2_:=(Option.bind_some _ _).symm.trans H;with_reducible exact H2_)|with_reducible exact H|(rw [hy219];exact H)|exact H
         have Ny219:=aK hy219
         clear hy219
         have H':=aK H
         clear H
         have p213:0≤(x8_1:Int):=of_decide_eq_true (by first|(with_reducible assumption)|assumption)
         have q213:x8_1<(l0.length:Int):=of_decide_eq_true (by first|(with_reducible assumption)|assumption)
         obtain ⟨ad213,e213,hx213_0⟩:=Kd.at_bool HR0.out x8_1 p213 q213
         (try rw [← Nbq5.out] at hx213_0)
         cases e213
         replace hx213_0:=(HB.out.cell (World.block_lt_of_cell? w _ hx213_0)).trans hx213_0
         replace p213:=eq_true p213
         replace q213:=eq_true q213
         go_wp2_with ((with_reducible refine gate_builtin (b:=.append) (xs:=#[.tmp 13,.tmp 18]) rfl ?_);at_builtin;refine Kd.R_append k23 (w0:=w) w.heap.size rfl (.tmp 13) (.tmp 18) 26 23 (.agg #[(.int .i64 0),(.int .i64 0)]) 16 rfl Tryz.underlying26 info23 rfl (by decide) (by omega) u3 x3_1 (⟨x8_1,wrap64 (x8_1+1)⟩:S23) [.int .i64 x8_1,.int .i64 (wrap64 (x8_1+1))] (fun _=>True) (fun _=>False) rfl rfl ?aP (fun _ hk=>hk.elim) ?aF ?aO ?aB ?aS ?aL ?_;(case aP=>exact k23_mkM _ _ _ (⟨x8_1,wrap64 (x8_1+1)⟩:S23));(case aB=>exact (by repeat (first|(with_reducible first|exact HB.out|apply below_alloc|apply pw_below_drewN|apply below_drew1)|exact HB.out)));(case aF=>exact (fun _ _=>trivial));(case aO=>exact (by (with_reducible repeat (first|apply Kd.R_alloc|apply Kd.R_drewN|apply Kd.R_drew));exact HO_3.out));(case aS=>exact (below_size (by repeat (first|(with_reducible first|exact HB.out|apply below_alloc|apply pw_below_drewN|apply below_drew1)|exact HB.out))));(case aL=>have:=LMc22.out;omega);intro v220 w23 ho hb hg hat;rw [← Ny219.out] at ho;have n0_:=aK (hb);have n1_:=aK (ho);clear HB;clear HO_3;have HB:=n0_;have HO221:=n1_;clear n0_ n1_;clear ho hb hg hat)
         go_roundg k1
         case measure=>have:=HK1.out;omega
         case rel=>exact ⟨(y219),(wrap64 (x8_1+1)),(by first|rfl|(simp;done)|(simp [*];done)),H',⟨by have:=HK1.out;omega⟩,⟨by (with_reducible repeat (first|apply Kd.R_alloc|apply Kd.R_drewN|apply Kd.R_drew));exact HO221.out⟩,⟨by repeat (first|(with_reducible first|exact HB.out|apply below_alloc|apply pw_below_drewN|apply below_drew1)|exact HB.out)⟩⟩
        ·rw [if_neg c22] at H
         exact absurd H (by simp)
      ·replace c6:=Bool.eq_false_iff.mpr c6
       subst c6
       have H1:(fleuronref19_Spans.l0 k1 l0 x3_1 l0 (l0.length:Int) (wrap64 (x8_1+1)))=some r:=by rw [if_neg (show ¬ (false=true) by decide)] at H;exact H
       clear H
       have H:=H1
       clear H1
       have H':=aK H
       clear H
       have p213:0≤(x8_1:Int):=of_decide_eq_true (by first|(with_reducible assumption)|assumption)
       have q213:x8_1<(l0.length:Int):=of_decide_eq_true (by first|(with_reducible assumption)|assumption)
       obtain ⟨ad213,e213,hx213_0⟩:=Kd.at_bool HR0.out x8_1 p213 q213
       (try rw [← Nbq5.out] at hx213_0)
       cases e213
       replace hx213_0:=(HB.out.cell (World.block_lt_of_cell? w _ hx213_0)).trans hx213_0
       replace p213:=eq_true p213
       replace q213:=eq_true q213
       go_wp2
       go_roundg k1
       case measure=>have:=HK1.out;omega
       case rel=>exact ⟨(x3_1),(wrap64 (x8_1+1)),(by first|rfl|(simp;done)|(simp [*];done)),H',⟨by have:=HK1.out;omega⟩,⟨by (with_reducible repeat (first|apply Kd.R_alloc|apply Kd.R_drewN|apply Kd.R_drew));exact HO_3.out⟩,⟨by repeat (first|(with_reducible first|exact HB.out|apply below_alloc|apply pw_below_drewN|apply below_drew1)|exact HB.out)⟩⟩
     ·rw [if_neg c4] at H
      exact absurd H (by simp)
    ·rw [if_neg c3] at H
     exact absurd H (by simp)
   ·rw [if_neg c2] at H
    have c2b0:decide (x8_1<(l0.length:Int))=false:=decide_eq_false c2
    clear c2
    obtain rfl:=Option.some.inj H
    go_wp2
    go_ret
    exact ⟨_,by first|rfl|(simp [errW_none,errW_some] <;> rfl)|(simp [*,errW_none,errW_some] <;> rfl),by (with_reducible repeat (first|apply Kd.R_alloc|apply Kd.R_drewN|apply Kd.R_drew));exact HO_3.out,by repeat (first|(with_reducible first|exact HB.out|apply below_alloc|apply pw_below_drewN|apply below_drew1)|exact HB.out)⟩
end Go.Proofs.YtckjlckhjcbddaaGreat.PG3
