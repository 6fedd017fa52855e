import Derived.Test.YtckjlckhjcbddaaPH3x0
import Derived.Test.YtckjlckhjcbddaaPH3x4
import Derived.Test.YtckjlckhjcbddaaPH3x5
set_option maxRecDepth 100000
namespace Go.Proofs.Ytckjlckhjcbddaa.PH3
open Go.RowKit Go.Proofs.YtckjlckhjcbddaaW.PrintWords Go.Proofs.YtckjlckhjcbddaaW.PrintLast Go.Proofs.YtckjlckhjcbddaaW.PrintMore
attribute [local go_sem] max2_int min2_int max_two min_two max_three min_three max_four min_four
set_option linter.unusedVariables false
set_option linter.unusedSimpArgs false

def scan_spans.l0 : Nat → List (S36) → List Bool → Int → Int → Option ((List (S36)))
  | 0,_,_,_,_=>none
  | k+1,x3,x7,x8,x9=>if x9<x8 then (if 0≤x9 then (if x9<(x7.length:Int) then (if rdOf false x7 x9=true then (if (x3.length:Int)>0 then (if 0≤(wrap64 ((x3.length:Int)-1)) then (if (wrap64 ((x3.length:Int)-1))<(x3.length:Int) then (if ((rd_T36 x3 (wrap64 ((x3.length:Int)-1))).f1)=x9 then (scan_spans.l0 k (x3.set ((wrap64 ((x3.length:Int)-1)):Int).toNat (⟨(rd_T36 x3 (wrap64 ((x3.length:Int)-1))).f0,wrap64 (((rd_T36 x3 (wrap64 ((x3.length:Int)-1))).f1)+1)⟩:S36)) x7 x8 (wrap64 (x9+1))) else (if x3.length<8796093022208 then (scan_spans.l0 k (x3++[(⟨x9,wrap64 (x9+1)⟩:S36)]) x7 x8 (wrap64 (x9+1))) else (none))) else (none)) else (none)) else (if x3.length<8796093022208 then (scan_spans.l0 k (x3++[(⟨x9,wrap64 (x9+1)⟩:S36)]) x7 x8 (wrap64 (x9+1))) else (none))) else (scan_spans.l0 k x3 x7 x8 (wrap64 (x9+1)))) else (none)) else (none)) else (some x3)
def scan_spans.f (k:Nat) (l0:List Bool):Option ((List (S36))):=scan_spans.l0 k ([]:List (S36)) l0 (l0.length:Int) 0
theorem scan_spans.mono_l : ∀ k, (∀ y0 y1 y2 y3, LeO (scan_spans.l0 k y0 y1 y2 y3) (scan_spans.l0 (k + 1) y0 y1 y2 y3))
  | 0=>fun _ _ _ _ r h=>by simp [scan_spans.l0] at h
  | k+1=>by
    have ih0:=scan_spans.mono_l k
    · intro y0 y1 y2 y3
      unfold scan_spans.l0
      repeat' first
      | (with_reducible exact ih0 _ _ _ _)
      | (with_reducible exact LeO.refl _)
      | (with_reducible exact LeO.none _)
      | (with_reducible refine LeO.ite ?_ ?_)
      | (with_reducible refine LeO.bind ?_ (fun _=>?_))
      | exact ih0 _ _ _ _
      | exact LeO.none _
      | refine LeO.ite ?_ ?_
      | refine LeO.bind ?_ (fun _=>?_)
theorem scan_spans.mono : ∀ a0 k,LeO (scan_spans.f k a0) (scan_spans.f (k+1) a0):=by
  intro a0 k
  have ih0:=scan_spans.mono_l k
  unfold scan_spans.f
  repeat' first
      | (with_reducible exact ih0 _ _ _ _)
      | (with_reducible exact LeO.refl _)
      | (with_reducible exact LeO.none _)
      | (with_reducible refine LeO.ite ?_ ?_)
      | (with_reducible refine LeO.bind ?_ (fun _=>?_))
      | exact ih0 _ _ _ _
      | exact LeO.none _
      | refine LeO.ite ?_ ?_
      | refine LeO.bind ?_ (fun _=>?_)
def scan_spans.T9:Bool×List (List Nat×List Nat):=(true,[([],[]),([],[]),([1],[1]),([0,2],[0,2]),([3],[3]),([4],[4]),([5],[5]),([0,2],[0,2]),([7,0,1,2,3,4,5,6],[7]),([8,6,0,1,2,3,4,5,6],[6,8])])
def scan_spans.B9:List Nat:=[0,0,2,7,15,31,63,7,255,511]
theorem scan_spans.tab9:rtab .any (opsOf Try.f31 9)=scan_spans.T9:=by kernel_rfl
theorem scan_spans.bits9:waitsOk scan_spans.T9.2 scan_spans.B9=true:=by kernel_rfl
set_option maxHeartbeats 8000000 in
theorem scan_spans.calls (k : Nat) (A0 : Option Addr) (c0 : Nat) (l0 : List Bool) (r : List (S36)) (w : World) (hr0 : Kd.C Kd.bool w A0 l0.length l0) (hc0 : l0.length ≤ c0) (h : scan_spans.f k l0 = some r) :
    Calls Try.prog 31 #[.slice A0 l0.length c0] w fun e w'=>∃ v0_:Value,e = .returned (v0_)∧Kd.R k36 36 w' w.heap.size (fun _=>True) v0_ r∧Below w.heap.size w w':=by
  have hu36:=Try.underlying36
  have HR0:=aK hr0
  have HC0:=aK hc0
  clear hr0 hc0
  have HB:=aK (Below.refl w.heap.size w)
  have H:(scan_spans.l0 k ([]:List (S36)) l0 (l0.length:Int) 0)=some r:=h
  clear h
  have H':=aK H
  clear H
  go_enter Try.func31,Try.ntmps31
  go_wp2
  go_loopg [3,9] k (fun kq v3 v9 w'=>∃ (x3_1:List (S36)) (x9_1:Int),v9 = .int .i64 x9_1∧Aside0 (scan_spans.l0 kq x3_1 l0 (l0.length:Int) x9_1=some r)∧Aside0 (kq≤k)∧Aside0 (Kd.R k36 36 w' w.heap.size (fun _=>True) v3 x3_1)∧Aside0 (Below w.heap.size w w'))
  case atStart=>exact ⟨(([]:List (S36))),(0),(by first|rfl|(simp;done)|(simp [*];done)),H',⟨Nat.le_refl _⟩,⟨by first|exact Kd.R_nil _ _ _ _ _|exact Kd.N_nil _ _ _ _ _|exact Kd.V_nil _ _ _ _ _|exact Kd.Q_nil _ _ _ _ _|exact Kd.S_nil _ _ _ _ _⟩,⟨by repeat (first|(with_reducible first|exact HB.out|apply below_alloc|apply pw_below_drewN|apply below_drew1)|exact HB.out)⟩⟩
  case round =>
    clear H'
    obtain ⟨x3_1,x9_1,rfl,HA,HK1,HO_3,HB⟩:=hrel
    cases gk with
    | zero=>exact absurd HA.out (by simp [scan_spans.l0])
    | succ k1 =>
      have H:=HA.out
      clear HA
      simp only [scan_spans.l0] at H
      by_cases c2:x9_1<(l0.length:Int)
      · rw [if_pos c2] at H
        have c2b0:decide (x9_1<(l0.length:Int))=true:=decide_eq_true c2
        clear c2
        by_cases c3:0≤x9_1
        · rw [if_pos c3] at H
          have c3b0:decide (0≤x9_1)=true:=decide_eq_true c3
          clear c3
          by_cases c4:x9_1<(l0.length:Int)
          · rw [if_pos c4] at H
            have c4b0:decide (x9_1<(l0.length:Int))=true:=decide_eq_true c4
            clear c4
            obtain ⟨bq5,hbq5⟩ : ∃ b_:Bool,b_=(rdOf false l0 x9_1):=⟨_,rfl⟩
            replace H:(if bq5=true then (if (x3_1.length:Int)>0 then (if 0≤(wrap64 ((x3_1.length:Int)-1)) then (if (wrap64 ((x3_1.length:Int)-1))<(x3_1.length:Int) then (if ((rd_T36 x3_1 (wrap64 ((x3_1.length:Int)-1))).f1)=x9_1 then (scan_spans.l0 k1 (x3_1.set ((wrap64 ((x3_1.length:Int)-1)):Int).toNat (⟨(rd_T36 x3_1 (wrap64 ((x3_1.length:Int)-1))).f0,wrap64 (((rd_T36 x3_1 (wrap64 ((x3_1.length:Int)-1))).f1)+1)⟩:S36)) l0 (l0.length:Int) (wrap64 (x9_1+1))) else (if x3_1.length<8796093022208 then (scan_spans.l0 k1 (x3_1++[(⟨x9_1,wrap64 (x9_1+1)⟩:S36)]) l0 (l0.length:Int) (wrap64 (x9_1+1))) else (none))) else (none)) else (none)) else (if x3_1.length<8796093022208 then (scan_spans.l0 k1 (x3_1++[(⟨x9_1,wrap64 (x9_1+1)⟩:S36)]) l0 (l0.length:Int) (wrap64 (x9_1+1))) else (none))) else (scan_spans.l0 k1 x3_1 l0 (l0.length:Int) (wrap64 (x9_1+1))))=some r:=by rw [← hbq5] at H;exact H
            have Nbq5:=aK hbq5
            clear hbq5
            by_cases c6:bq5=true
            · subst c6
              have H1:(if (x3_1.length:Int)>0 then (if 0≤(wrap64 ((x3_1.length:Int)-1)) then (if (wrap64 ((x3_1.length:Int)-1))<(x3_1.length:Int) then (if ((rd_T36 x3_1 (wrap64 ((x3_1.length:Int)-1))).f1)=x9_1 then (scan_spans.l0 k1 (x3_1.set ((wrap64 ((x3_1.length:Int)-1)):Int).toNat (⟨(rd_T36 x3_1 (wrap64 ((x3_1.length:Int)-1))).f0,wrap64 (((rd_T36 x3_1 (wrap64 ((x3_1.length:Int)-1))).f1)+1)⟩:S36)) l0 (l0.length:Int) (wrap64 (x9_1+1))) else (if x3_1.length<8796093022208 then (scan_spans.l0 k1 (x3_1++[(⟨x9_1,wrap64 (x9_1+1)⟩:S36)]) l0 (l0.length:Int) (wrap64 (x9_1+1))) else (none))) else (none)) else (none)) else (if x3_1.length<8796093022208 then (scan_spans.l0 k1 (x3_1++[(⟨x9_1,wrap64 (x9_1+1)⟩:S36)]) l0 (l0.length:Int) (wrap64 (x9_1+1))) else (none)))=some r:=by rw [if_pos rfl] at H;exact H
              clear H
              have H:=H1
              clear H1
              by_cases c7:(x3_1.length:Int)>0
              · rw [if_pos c7] at H
                have c7b0:decide (0<(x3_1.length:Int))=true:=decide_eq_true c7
                have c7b1:decide (0<x3_1.length)=true:=decide_eq_true (by omega)
                clear c7
                obtain ⟨ji8,hji8⟩ : ∃ j_:Int,(wrap64 ((x3_1.length:Int)-1))=j_:=⟨_,rfl⟩
                replace H:(if 0≤(ji8) then (if (ji8)<(x3_1.length:Int) then (if ((rd_T36 x3_1 (ji8)).f1)=x9_1 then (scan_spans.l0 k1 (x3_1.set ((ji8):Int).toNat (⟨(rd_T36 x3_1 (ji8)).f0,wrap64 (((rd_T36 x3_1 (ji8)).f1)+1)⟩:S36)) l0 (l0.length:Int) (wrap64 (x9_1+1))) else (if x3_1.length<8796093022208 then (scan_spans.l0 k1 (x3_1++[(⟨x9_1,wrap64 (x9_1+1)⟩:S36)]) l0 (l0.length:Int) (wrap64 (x9_1+1))) else (none))) else (none)) else (none))=some r:=by first|(rw [hji8] at H;exact H)|(simp only [hji8] at H ⊢;exact H)
                have hji8w:(IntKind.i64.wrap ((x3_1.length:Int)-1))=ji8:=(i64_w _).trans hji8
                by_cases c9:0≤(ji8)
                · rw [if_pos c9] at H
                  have c9b0:decide (0≤(ji8))=true:=decide_eq_true c9
                  clear c9
                  by_cases c10:(ji8)<(x3_1.length:Int)
                  · rw [if_pos c10] at H
                    have c10b0:decide ((ji8)<(x3_1.length:Int))=true:=decide_eq_true c10
                    clear c10
                    by_cases c11:((rd_T36 x3_1 (ji8)).f1)=x9_1
                    · rw [if_pos c11] at H
                      have c11b0:(((rd_T36 x3_1 (ji8)).f1) == x9_1)=true:=beq_iff_eq.mpr c11
                      have c11b1:(((rd_T36 x3_1 (ji8)).f1) != x9_1)=false:=bne_eq_false_iff_eq.mpr c11
                      clear c11
                      obtain ⟨y129,hy129⟩ : ∃ y_:List (S36),y_=(x3_1.set ((ji8):Int).toNat (⟨(rd_T36 x3_1 (ji8)).f0,wrap64 (((rd_T36 x3_1 (ji8)).f1)+1)⟩:S36)):=⟨_,rfl⟩
                      replace H:(scan_spans.l0 k1 y129 l0 (l0.length:Int) (wrap64 (x9_1+1)))=some r:=by first|(rw [hy129];with_reducible exact H)|(have H2_:=(Option.bind_some _ _).symm.trans H;rw [hy129];with_reducible exact H2_)|(have H2_:=(Option.bind_some _ _).symm.trans H;with_reducible exact H2_)|with_reducible exact H|(rw [hy129];exact H)|exact H
                      have Ny129:=aK hy129
                      clear hy129
                      have H':=aK H
                      clear H
                      have p126:0≤(x9_1:Int):=of_decide_eq_true (by first|(with_reducible assumption)|assumption)
                      have q126:x9_1<(l0.length:Int):=of_decide_eq_true (by first|(with_reducible assumption)|assumption)
                      obtain ⟨ad126,e126,hx126_0⟩:=Kd.at_bool HR0.out x9_1 p126 q126
                      (try rw [← Nbq5.out] at hx126_0)
                      cases e126
                      replace hx126_0:=(HB.out.cell (World.block_lt_of_cell? w _ hx126_0)).trans hx126_0
                      replace p126:=eq_true p126
                      replace q126:=eq_true q126
                      obtain ⟨Ao13,co13,eo13⟩:=Kd.R_slice HO_3.out
                      subst eo13
                      have p127:0≤((ji8):Int):=of_decide_eq_true (by first|(with_reducible assumption)|assumption)
                      have q127:(ji8)<(x3_1.length:Int):=of_decide_eq_true (by first|(with_reducible assumption)|assumption)
                      obtain ⟨ad127,e127,hx127_0,hx127_1⟩:=at_T36 (Kd.R_reads' HO_3.out).2.2 (ji8) p127 q127
                      cases e127
                      replace p127:=eq_true p127
                      replace q127:=eq_true q127
                      try go_wp2
                      have n0_:=aK (Kd.R_drew HO_3.out)
                      have n1_:=aK (below_drew1 HB.out)
                      clear HO_3
                      clear HB
                      have HO_3:=n0_
                      have HB:=n1_
                      clear n0_ n1_
                      have p128:0≤((ji8):Int):=of_decide_eq_true (by first|(with_reducible assumption)|assumption)
                      have q128:(ji8)<(x3_1.length:Int):=of_decide_eq_true (by first|(with_reducible assumption)|assumption)
                      obtain ⟨ad128,e128,hx128_0,hx128_1⟩:=at_T36 (Kd.R_reads' HO_3.out).2.2 (ji8) p128 q128
                      obtain rfl:ad127=ad128:=(by injection e128)
                      replace p128:=eq_true p128
                      replace q128:=eq_true q128
                      have p12:0≤((ji8):Int):=of_decide_eq_true (by first|(with_reducible assumption)|assumption)
                      have q12:((ji8):Int)<((x3_1.length:Int):Int):=of_decide_eq_true (by first|(with_reducible assumption)|assumption)
                      obtain ⟨go12,co12,eo12,gb12,gl12,cl12,HG12⟩:=Kd.R_form HO_3.out (by omega)
                      (first|cases eo12|(injection eo12 with ea_ en_ ec_;(first|subst ea_|(injection ea_ with ea_;subst ea_));subst ec_;clear en_))
                      have GB12:=aK gb12
                      have GG12:=aK HG12
                      clear gb12 gl12 HG12
                      (first|simp only [add_plain] at hx127_0|skip)
                      (first|simp only [add_plain] at hx127_1|skip)
                      (first|simp only [add_plain] at hx128_0|skip)
                      (first|simp only [add_plain] at hx128_1|skip)
                      obtain ⟨ce12,hcl12,hM12,hcc12,hfr12⟩:=Kd.R_elem HO_3.out z36 ((ji8):Int) p12 q12
                      obtain rfl:=k36_openM hM12
                      have hx12_0:World.cell? _ ⟨go12,((ji8):Int).toNat*2,none⟩=some (.int .i64 ((rd_T36 x3_1 (ji8)).f0)):=hcc12 0 _ rfl
                      have hx12_1:World.cell? _ ⟨go12,((ji8):Int).toNat*2+1,none⟩=some (.int .i64 ((rd_T36 x3_1 (ji8)).f1)):=hcc12 1 _ rfl
                      have hf12_0:World.frozen? _ ⟨go12,((ji8):Int).toNat*2,none⟩=false:=hfr12 0
                      have hf12_1:World.frozen? _ ⟨go12,((ji8):Int).toNat*2+1,none⟩=false:=hfr12 1
                      clear hcl12 hcc12 hfr12 hM12
                      replace p12:=eq_true p12
                      replace q12:=eq_true q12
                      obtain ⟨ce15,hcl15,hM15,hcc15,hfr15⟩:=Kd.R_elem HO_3.out z36 ((ji8):Int) (of_decide_eq_true (by first|(with_reducible assumption)|assumption)) (by have h_:((ji8):Int)<((x3_1.length:Int):Int):=of_decide_eq_true (by first|(with_reducible assumption)|assumption);first|exact h_|(have e_:=(Kd.R_reads' HO_3.out).1;omega)|simpa using h_)
                      obtain rfl:=k36_openM hM15
                      have HP15:=(Kd.R_seg HO_3.out ((ji8):Int) (of_decide_eq_true (by first|(with_reducible assumption)|assumption)) (by have h_:((ji8):Int)<((x3_1.length:Int):Int):=of_decide_eq_true (by first|(with_reducible assumption)|assumption);first|exact h_|(have e_:=(Kd.R_reads' HO_3.out).1;omega)|simpa using h_) (seg:=[.int .i64 (wrap64 (((rd_T36 x3_1 (ji8)).f1)+1))]) (j:=1) hcl15 hcc15 (show 2≤2 from by decide) (x':=(⟨(rd_T36 x3_1 (ji8)).f0,wrap64 (((rd_T36 x3_1 (ji8)).f1)+1)⟩:S36)) (k36_mkM _ _ _ (⟨(rd_T36 x3_1 (ji8)).f0,wrap64 (((rd_T36 x3_1 (ji8)).f1)+1)⟩:S36) ) (fun _ hk=>hk)).1
                      rw [← Ny129.out] at HP15
                      have HQ15:=aK HP15
                      clear hcl15 hcc15 hfr15 hM15 HP15
                      refine start_ (n:=10) (S:=fun w'=>w'.cell? ⟨go12,((ji8):Int).toNat*2,none⟩=some (.int .i64 ((rd_T36 x3_1 (ji8)).f0))∧w'.cell? ⟨go12,((ji8):Int).toNat*2+1,none⟩=some (.int .i64 ((rd_T36 x3_1 (ji8)).f1))) (ds:=[9]) #[false,false,false,false,false,false,false,false,false,false] (by kernel_rfl) rfl rfl ⟨hx12_0,hx12_1⟩ (fun hHeld=>?_);refine with_tabW scan_spans.tab9 scan_spans.bits9 (fun HT_ HW_=>?_)
                      generalize wr.drew=w14 at HO_3 HB GG12 HQ15 hf12_0 hf12_1 hx127_0 hx127_1 hx128_0 hx128_1 hx12_0 hx12_1 hHeld ⊢
                      refine pure_ (i:=0) (N:=some 39) (v:=?_) (a':=?_) #[true,false,false,false,false,false,false,false,false,false] rfl rfl (any_of HT_.out (by kernel_rfl)) (fun _ _ _ h=>h) (Or.inl ⟨by rfl,?_⟩) ?_ ?_
                      rotate_left
                      · intro w'
                        go_simp
                        with_reducible rfl
                      rotate_left
                      · simp only [Act.put,lS,i64_w,i32_w]
                        rfl
                      refine pure_ (i:=1) (N:=some 40) (v:=?_) (a':=?_) #[true,true,false,false,false,false,false,false,false,false] rfl rfl (any_of HT_.out (by kernel_rfl)) (fun _ _ _ h=>h) (Or.inl ⟨by rfl,?_⟩) ?_ ?_
                      rotate_left
                      · intro w'
                        go_simp
                        with_reducible rfl
                      rotate_left
                      · simp only [Act.put,lS,i64_w,i32_w]
                        rfl
                      refine pure_ (i:=2) (N:=some 41) (v:=?_) (a':=?_) #[true,true,true,false,false,false,false,false,false,false] rfl rfl (any_of HT_.out (by kernel_rfl)) (fun _ _ _ h=>h) (Or.inl ⟨by rfl,?_⟩) ?_ ?_
                      rotate_left
                      · intro w'
                        go_simp
                        with_reducible rfl
                      rotate_left
                      · simp only [Act.put,lS,i64_w,i32_w]
                        rfl
                      refine pure_ (i:=3) (N:=some 42) (v:=?_) (a':=?_) #[true,true,true,true,false,false,false,false,false,false] rfl rfl (any_of HT_.out (by kernel_rfl)) (fun _ _ _ h=>h) (Or.inl ⟨by rfl,?_⟩) ?_ ?_
                      rotate_left
                      · intro w'
                        go_simp
                        with_reducible rfl
                      rotate_left
                      · simp only [Act.put,lS,i64_w,i32_w]
                        rfl
                      refine pure_ (i:=4) (N:=some 43) (v:=?_) (a':=?_) #[true,true,true,true,true,false,false,false,false,false] rfl rfl (any_of HT_.out (by kernel_rfl)) (fun _ _ _ h=>h) (Or.inl ⟨by rfl,?_⟩) ?_ ?_
                      rotate_left
                      · intro w'
                        go_simp
                        with_reducible rfl
                      rotate_left
                      · simp only [Act.put,lS,i64_w,i32_w]
                        rfl
                      refine pure_ (i:=7) (N:=some 46) (v:=?_) (a':=?_) #[true,true,true,true,true,false,false,true,false,false] rfl rfl (any_of HT_.out (by kernel_rfl)) (fun _ _ _ h=>h) (Or.inl ⟨by rfl,?_⟩) ?_ ?_
                      rotate_left
                      · intro w'
                        go_simp
                        with_reducible rfl
                      rotate_left
                      · simp only [Act.put,lS,i64_w,i32_w]
                        rfl
                      refine take_ (i:=5) (N:=some 44) (v:=?_) (a':=?_) #[true,true,true,true,true,true,false,true,false,false] rfl rfl (take_ofW HT_.out HW_.out (by kernel_rfl)) (fun _ _ _ h=>h) (Or.inl ⟨by rfl,?_⟩) hHeld ?_ ?_
                      rotate_left
                      · rintro w' ⟨s0,s1⟩
                        go_simp
                        with_reducible rfl
                      rotate_left
                      · simp only [Act.put,lS,i64_w,i32_w]
                        rfl
                      refine pure_ (i:=6) (N:=some 45) (v:=?_) (a':=?_) #[true,true,true,true,true,true,true,true,false,false] rfl rfl (any_of HT_.out (by kernel_rfl)) (fun _ _ _ h=>h) (Or.inl ⟨by rfl,?_⟩) ?_ ?_
                      rotate_left
                      · intro w'
                        go_simp
                        with_reducible rfl
                      rotate_left
                      · simp only [Act.put,lS,i64_w,i32_w]
                        rfl
                      refine pure_ (i:=8) (N:=some 47) (v:=?_) (a':=?_) #[true,true,true,true,true,true,true,true,true,false] rfl rfl (any_of HT_.out (by kernel_rfl)) (fun _ _ _ h=>h) (Or.inl ⟨by rfl,?_⟩) ?_ ?_
                      rotate_left
                      · intro w'
                        go_simp
                        with_reducible rfl
                      rotate_left
                      · simp only [Act.put,lS,i64_w,i32_w]
                        rfl
                      refine last_ (i:=9) (N:=none) #[true,true,true,true,true,true,true,true,true,true] rfl rfl (one_of HT_.out (by kernel_rfl)) (by decide) (fun K hK=>?_)
                      refine skip_ (w1:=?_) (by rfl) rfl ?_ ?_
                      rotate_left
                      · go_simp
                        rfl
                      refine hK.out _ _ ?_
                      clear hK K
                      refine done_ (done_of HT_.out (by kernel_rfl)) ?_
                      try go_wp2
                      go_roundg k1
                      case measure=>have:=HK1.out;omega
                      case rel=>exact ⟨(y129),(wrap64 (x9_1+1)),(by first|rfl|(simp;done)|(simp [*];done)),H',⟨by have:=HK1.out;omega⟩,⟨by (with_reducible repeat (first|apply Kd.R_alloc|apply Kd.R_drewN|apply Kd.R_drew));exact HQ15.out⟩,⟨by repeat (first|(with_reducible first|exact HB.out|apply below_alloc|apply pw_below_drewN|apply below_drew1|refine below_set ?_ GB12.out)|exact HB.out)⟩⟩
                    · rw [if_neg c11] at H
                      have c11b0:(((rd_T36 x3_1 (ji8)).f1) == x9_1)=false:=beq_eq_false_iff_ne.mpr c11
                      have c11b1:(((rd_T36 x3_1 (ji8)).f1) != x9_1)=true:=bne_iff_ne.mpr c11
                      by_cases c16:x3_1.length<8796093022208
                      · rw [if_pos c16] at H
                        have LMc16:=aK c16
                        clear c16
                        obtain ⟨y130,hy130⟩ : ∃ y_:List (S36),y_=(x3_1++[(⟨x9_1,wrap64 (x9_1+1)⟩:S36)]):=⟨_,rfl⟩
                        replace H:(scan_spans.l0 k1 y130 l0 (l0.length:Int) (wrap64 (x9_1+1)))=some r:=by first|(rw [hy130];with_reducible exact H)|(have H2_:=(Option.bind_some _ _).symm.trans H;rw [hy130];with_reducible exact H2_)|(have H2_:=(Option.bind_some _ _).symm.trans H;with_reducible exact H2_)|with_reducible exact H|(rw [hy130];exact H)|exact H
                        have Ny130:=aK hy130
                        clear hy130
                        have H':=aK H
                        clear H
                        have p126:0≤(x9_1:Int):=of_decide_eq_true (by first|(with_reducible assumption)|assumption)
                        have q126:x9_1<(l0.length:Int):=of_decide_eq_true (by first|(with_reducible assumption)|assumption)
                        obtain ⟨ad126,e126,hx126_0⟩:=Kd.at_bool HR0.out x9_1 p126 q126
                        (try rw [← Nbq5.out] at hx126_0)
                        cases e126
                        replace hx126_0:=(HB.out.cell (World.block_lt_of_cell? w _ hx126_0)).trans hx126_0
                        replace p126:=eq_true p126
                        replace q126:=eq_true q126
                        obtain ⟨Ao17,co17,eo17⟩:=Kd.R_slice HO_3.out
                        subst eo17
                        have p127:0≤((ji8):Int):=of_decide_eq_true (by first|(with_reducible assumption)|assumption)
                        have q127:(ji8)<(x3_1.length:Int):=of_decide_eq_true (by first|(with_reducible assumption)|assumption)
                        obtain ⟨ad127,e127,hx127_0,hx127_1⟩:=at_T36 (Kd.R_reads' HO_3.out).2.2 (ji8) p127 q127
                        cases e127
                        replace p127:=eq_true p127
                        replace q127:=eq_true q127
                        go_wp2_with ((with_reducible refine gate_builtin (b:=.append) (xs:=#[.tmp 16,.tmp 21]) rfl ?_);at_builtin;refine Kd.R_append k36 (w0:=w) w.heap.size rfl (.tmp 16) (.tmp 21) 22 36 (.agg #[(.int .i64 0),(.int .i64 0)]) 16 rfl Try.underlying22 info36 rfl (by decide) (by omega) (.slice (some ad127) x3_1.length co17) x3_1 (⟨x9_1,wrap64 (x9_1+1)⟩:S36) [.int .i64 x9_1,.int .i64 (wrap64 (x9_1+1))] (fun _=>True) (fun _=>False) rfl rfl ?aP (fun _ hk=>hk.elim) ?aF ?aO ?aB ?aS ?aL ?_;(case aP=>exact k36_mkM _ _ _ (⟨x9_1,wrap64 (x9_1+1)⟩:S36));(case aB=>exact (by repeat (first|(with_reducible first|exact HB.out|apply below_alloc|apply pw_below_drewN|apply below_drew1)|exact HB.out)));(case aF=>exact (fun _ _=>trivial));(case aO=>exact (by (with_reducible repeat (first|apply Kd.R_alloc|apply Kd.R_drewN|apply Kd.R_drew));exact HO_3.out));(case aS=>exact (below_size (by repeat (first|(with_reducible first|exact HB.out|apply below_alloc|apply pw_below_drewN|apply below_drew1)|exact HB.out))));(case aL=>have:=LMc16.out;omega);intro v131 w18 ho hb hg hat;rw [← Ny130.out] at ho;have n0_:=aK (hb);have n1_:=aK (ho);clear HB;clear HO_3;have HB:=n0_;have HO132:=n1_;clear n0_ n1_;clear ho hb hg hat)
                        go_roundg k1
                        case measure=>have:=HK1.out;omega
                        case rel=>exact ⟨(y130),(wrap64 (x9_1+1)),(by first|rfl|(simp;done)|(simp [*];done)),H',⟨by have:=HK1.out;omega⟩,⟨by (with_reducible repeat (first|apply Kd.R_alloc|apply Kd.R_drewN|apply Kd.R_drew));exact HO132.out⟩,⟨by repeat (first|(with_reducible first|exact HB.out|apply below_alloc|apply pw_below_drewN|apply below_drew1)|exact HB.out)⟩⟩
                      · rw [if_neg c16] at H
                        exact absurd H (by simp)
                  · rw [if_neg c10] at H
                    exact absurd H (by simp)
                · rw [if_neg c9] at H
                  exact absurd H (by simp)
              · rw [if_neg c7] at H
                have c7b0:decide (0<(x3_1.length:Int))=false:=decide_eq_false c7
                have c7b1:decide (0<x3_1.length)=false:=decide_eq_false (by omega)
                clear c7
                by_cases c19:x3_1.length<8796093022208
                · rw [if_pos c19] at H
                  have LMc19:=aK c19
                  clear c19
                  obtain ⟨y133,hy133⟩ : ∃ y_:List (S36),y_=(x3_1++[(⟨x9_1,wrap64 (x9_1+1)⟩:S36)]):=⟨_,rfl⟩
                  replace H:(scan_spans.l0 k1 y133 l0 (l0.length:Int) (wrap64 (x9_1+1)))=some r:=by first|(rw [hy133];with_reducible exact H)|(have H2_:=(Option.bind_some _ _).symm.trans H;rw [hy133];with_reducible exact H2_)|(have H2_:=(Option.bind_some _ _).symm.trans H;with_reducible exact H2_)|with_reducible exact H|(rw [hy133];exact H)|exact H
                  have Ny133:=aK hy133
                  clear hy133
                  have H':=aK H
                  clear H
                  have p126:0≤(x9_1:Int):=of_decide_eq_true (by first|(with_reducible assumption)|assumption)
                  have q126:x9_1<(l0.length:Int):=of_decide_eq_true (by first|(with_reducible assumption)|assumption)
                  obtain ⟨ad126,e126,hx126_0⟩:=Kd.at_bool HR0.out x9_1 p126 q126
                  (try rw [← Nbq5.out] at hx126_0)
                  cases e126
                  replace hx126_0:=(HB.out.cell (World.block_lt_of_cell? w _ hx126_0)).trans hx126_0
                  replace p126:=eq_true p126
                  replace q126:=eq_true q126
                  obtain ⟨Ao20,co20,eo20⟩:=Kd.R_slice HO_3.out
                  subst eo20
                  go_wp2_with ((with_reducible refine gate_builtin (b:=.append) (xs:=#[.tmp 16,.tmp 21]) rfl ?_);at_builtin;refine Kd.R_append k36 (w0:=w) w.heap.size rfl (.tmp 16) (.tmp 21) 22 36 (.agg #[(.int .i64 0),(.int .i64 0)]) 16 rfl Try.underlying22 info36 rfl (by decide) (by omega) (.slice Ao20 x3_1.length co20) x3_1 (⟨x9_1,wrap64 (x9_1+1)⟩:S36) [.int .i64 x9_1,.int .i64 (wrap64 (x9_1+1))] (fun _=>True) (fun _=>False) rfl rfl ?aP (fun _ hk=>hk.elim) ?aF ?aO ?aB ?aS ?aL ?_;(case aP=>exact k36_mkM _ _ _ (⟨x9_1,wrap64 (x9_1+1)⟩:S36));(case aB=>exact (by repeat (first|(with_reducible first|exact HB.out|apply below_alloc|apply pw_below_drewN|apply below_drew1)|exact HB.out)));(case aF=>exact (fun _ _=>trivial));(case aO=>exact (by (with_reducible repeat (first|apply Kd.R_alloc|apply Kd.R_drewN|apply Kd.R_drew));exact HO_3.out));(case aS=>exact (below_size (by repeat (first|(with_reducible first|exact HB.out|apply below_alloc|apply pw_below_drewN|apply below_drew1)|exact HB.out))));(case aL=>have:=LMc19.out;omega);intro v134 w21 ho hb hg hat;rw [← Ny133.out] at ho;have n0_:=aK (hb);have n1_:=aK (ho);clear HB;clear HO_3;have HB:=n0_;have HO135:=n1_;clear n0_ n1_;clear ho hb hg hat)
                  go_roundg k1
                  case measure=>have:=HK1.out;omega
                  case rel=>exact ⟨(y133),(wrap64 (x9_1+1)),(by first|rfl|(simp;done)|(simp [*];done)),H',⟨by have:=HK1.out;omega⟩,⟨by (with_reducible repeat (first|apply Kd.R_alloc|apply Kd.R_drewN|apply Kd.R_drew));exact HO135.out⟩,⟨by repeat (first|(with_reducible first|exact HB.out|apply below_alloc|apply pw_below_drewN|apply below_drew1)|exact HB.out)⟩⟩
                · rw [if_neg c19] at H
                  exact absurd H (by simp)
            · replace c6:=Bool.eq_false_iff.mpr c6
              subst c6
              have H1:(scan_spans.l0 k1 x3_1 l0 (l0.length:Int) (wrap64 (x9_1+1)))=some r:=by rw [if_neg (show ¬ (false=true) by decide)] at H;exact H
              clear H
              have H:=H1
              clear H1
              have H':=aK H
              clear H
              have p126:0≤(x9_1:Int):=of_decide_eq_true (by first|(with_reducible assumption)|assumption)
              have q126:x9_1<(l0.length:Int):=of_decide_eq_true (by first|(with_reducible assumption)|assumption)
              obtain ⟨ad126,e126,hx126_0⟩:=Kd.at_bool HR0.out x9_1 p126 q126
              (try rw [← Nbq5.out] at hx126_0)
              cases e126
              replace hx126_0:=(HB.out.cell (World.block_lt_of_cell? w _ hx126_0)).trans hx126_0
              replace p126:=eq_true p126
              replace q126:=eq_true q126
              obtain ⟨Ao22,co22,eo22⟩:=Kd.R_slice HO_3.out
              subst eo22
              go_wp2
              go_roundg k1
              case measure=>have:=HK1.out;omega
              case rel=>exact ⟨(x3_1),(wrap64 (x9_1+1)),(by first|rfl|(simp;done)|(simp [*];done)),H',⟨by have:=HK1.out;omega⟩,⟨by (with_reducible repeat (first|apply Kd.R_alloc|apply Kd.R_drewN|apply Kd.R_drew));exact HO_3.out⟩,⟨by repeat (first|(with_reducible first|exact HB.out|apply below_alloc|apply pw_below_drewN|apply below_drew1)|exact HB.out)⟩⟩
          · rw [if_neg c4] at H
            exact absurd H (by simp)
        · rw [if_neg c3] at H
          exact absurd H (by simp)
      · rw [if_neg c2] at H
        have c2b0:decide (x9_1<(l0.length:Int))=false:=decide_eq_false c2
        clear c2
        obtain rfl:=Option.some.inj H
        go_wp2
        go_ret
        exact ⟨_,by first|rfl|(simp [errW_none,errW_some] <;> rfl)|(simp [*,errW_none,errW_some] <;> rfl),by (with_reducible repeat (first|apply Kd.R_alloc|apply Kd.R_drewN|apply Kd.R_drew));exact HO_3.out,by repeat (first|(with_reducible first|exact HB.out|apply below_alloc|apply pw_below_drewN|apply below_drew1)|exact HB.out)⟩

def scan_floor.f (a0:Int) (a1:Int):Option (Int):=if a1=0 then (none) else (if (Int.tmod a0 a1)<0 then (some (wrap64 ((wrap64 (Int.tdiv a0 a1))-1))) else (some (wrap64 (Int.tdiv a0 a1))))
set_option maxHeartbeats 8000000 in
theorem scan_floor.calls (a0 : Int) (a1 : Int) (r : Int) (w : World) (h : scan_floor.f a0 a1 = some r) :
    Calls Try.prog 47 #[.int .i64 a0,.int .i64 a1] w fun e w'=>e = .returned (.int .i64 r)∧Drawn0 w w':=by
  have H:(if a1=0 then (none) else (if (Int.tmod a0 a1)<0 then (some (wrap64 ((wrap64 (Int.tdiv a0 a1))-1))) else (some (wrap64 (Int.tdiv a0 a1)))))=some r:=h
  clear h
  by_cases c3:a1=0
  · rw [if_pos c3] at H
    exact absurd H (by simp)
  · rw [if_neg c3] at H
    have c3b0:(a1 == 0)=false:=beq_eq_false_iff_ne.mpr c3
    have c3b1:(a1 != 0)=true:=bne_iff_ne.mpr c3
    by_cases c4:(Int.tmod a0 a1)<0
    · rw [if_pos c4] at H
      have c4b0:decide ((Int.tmod a0 a1)<0)=true:=decide_eq_true c4
      clear c4
      obtain rfl:=Option.some.inj H
      go_enter Try.func47,Try.ntmps47
      go_wp2
      go_ret
      exact ⟨by first|rfl|(simp;done)|(simp [*];done),by repeat (first|exact Drawn0.refl _|apply Drawn0.step)⟩
    · rw [if_neg c4] at H
      have c4b0:decide ((Int.tmod a0 a1)<0)=false:=decide_eq_false c4
      clear c4
      obtain rfl:=Option.some.inj H
      go_enter Try.func47,Try.ntmps47
      go_wp2
      go_ret
      exact ⟨by first|rfl|(simp;done)|(simp [*];done),by repeat (first|exact Drawn0.refl _|apply Drawn0.step)⟩

def scan_from.f (a0:Int):Option (Int):=(scan_floor.f (wrap64 ((wrap64 (a0+32768))-1)) 65536).bind fun t136=>(some t136)
set_option maxHeartbeats 8000000 in
theorem scan_from.calls (a0 : Int) (r : Int) (w : World) (h : scan_from.f a0 = some r) :
    Calls Try.prog 27 #[.int .i64 a0] w fun e w'=>e = .returned (.int .i64 r)∧Drawn0 w w':=by
  have H:((scan_floor.f (wrap64 ((wrap64 (a0+32768))-1)) 65536).bind fun t136=>(some t136))=some r:=h
  clear h
  replace H:=Option.bind_eq_some_iff.mp H
  obtain ⟨t136,A20,H⟩:=H
  replace H:(some t136)=some r:=H
  have A2:=aK A20
  clear A20
  obtain rfl:=Option.some.inj H
  go_enter Try.func27,Try.ntmps27
  go_wp2_with ((with_reducible refine gate_callee (f:=47) rfl ?_);refine goesL_ (some 6) rfl rfl Try.func47 (by kernel_rfl) rfl #[.int .i64 (wrap64 ((wrap64 (a0+32768))-1)),.int .i64 65536] rfl (by (try simp only [List.map_toArray,List.map_cons,List.map_nil]);first|done|rfl|(simp only [List.length_drop,List.length_take];rfl)) ?_;(with_reducible refine (scan_floor.calls (wrap64 ((wrap64 (a0+32768))-1)) 65536 t136 _ A2.out).mono ?_);rintro e w' ⟨rfl,⟨nd,rfl⟩⟩;refine ⟨_,rfl,?_⟩)
  go_ret
  exact ⟨by first|rfl|(simp;done)|(simp [*];done),by repeat (first|exact Drawn0.refl _|apply Drawn0.step)⟩

def scan_isRow.f (a0:Int) (a1:Int):Option (Bool):=if a0≥1 then (if a0≤256 then (if a1≥0 then (some (decide (a1<256))) else (some false)) else (some false)) else (some false)
set_option maxHeartbeats 8000000 in
theorem scan_isRow.calls (a0 : Int) (a1 : Int) (r : Bool) (w : World) (h : scan_isRow.f a0 a1 = some r) :
    Calls Try.prog 20 #[.int .i64 a0,.int .i64 a1] w fun e w'=>e = .returned (.bool r)∧Drawn0 w w':=by
  have H:(if a0≥1 then (if a0≤256 then (if a1≥0 then (some (decide (a1<256))) else (some false)) else (some false)) else (some false))=some r:=h
  clear h
  by_cases c3:a0≥1
  · rw [if_pos c3] at H
    have c3b0:decide (1≤a0)=true:=decide_eq_true c3
    clear c3
    by_cases c4:a0≤256
    · rw [if_pos c4] at H
      have c4b0:decide (a0≤256)=true:=decide_eq_true c4
      clear c4
      by_cases c5:a1≥0
      · rw [if_pos c5] at H
        have c5b0:decide (0≤a1)=true:=decide_eq_true c5
        clear c5
        obtain rfl:=Option.some.inj H
        go_enter Try.func20,Try.ntmps20
        go_wp2
        go_ret
        exact ⟨by first|rfl|(simp;done)|(simp [*];done),by repeat (first|exact Drawn0.refl _|apply Drawn0.step)⟩
      · rw [if_neg c5] at H
        have c5b0:decide (0≤a1)=false:=decide_eq_false c5
        clear c5
        obtain rfl:=Option.some.inj H
        go_enter Try.func20,Try.ntmps20
        go_wp2
        go_ret
        exact ⟨by first|rfl|(simp;done)|(simp [*];done),by repeat (first|exact Drawn0.refl _|apply Drawn0.step)⟩
    · rw [if_neg c4] at H
      have c4b0:decide (a0≤256)=false:=decide_eq_false c4
      clear c4
      obtain rfl:=Option.some.inj H
      go_enter Try.func20,Try.ntmps20
      go_wp2
      go_ret
      exact ⟨by first|rfl|(simp;done)|(simp [*];done),by repeat (first|exact Drawn0.refl _|apply Drawn0.step)⟩
  · rw [if_neg c3] at H
    have c3b0:decide (1≤a0)=false:=decide_eq_false c3
    clear c3
    obtain rfl:=Option.some.inj H
    go_enter Try.func20,Try.ntmps20
    go_wp2
    go_ret
    exact ⟨by first|rfl|(simp;done)|(simp [*];done),by repeat (first|exact Drawn0.refl _|apply Drawn0.step)⟩

def scan_middle.f (a0:Int):Option (Int):=some (wrap64 ((wrap64 (a0*65536))+32768))
set_option maxHeartbeats 8000000 in
theorem scan_middle.calls (a0 : Int) (r : Int) (w : World) (h : scan_middle.f a0 = some r) :
    Calls Try.prog 33 #[.int .i64 a0] w fun e w'=>e = .returned (.int .i64 r)∧Drawn0 w w':=by
  have H:(some (wrap64 ((wrap64 (a0*65536))+32768)))=some r:=h
  clear h
  obtain rfl:=Option.some.inj H
  go_enter Try.func33,Try.ntmps33
  go_wp2
  go_ret
  exact ⟨by first|rfl|(simp;done)|(simp [*];done),by repeat (first|exact Drawn0.refl _|apply Drawn0.step)⟩

def api_Point_77.f (l0:List S31):Option (List S31):=if l0.length<8796093022208 then some l0 else none
set_option maxHeartbeats 4000000 in
theorem api_Point_77.calls (A0 : Option Addr) (c0 : Nat) (l0 : List S31) (r : List S31) (w : World) (hr0 : Kd.C k31 w A0 l0.length l0) (hc0 : l0.length ≤ c0) (h : api_Point_77.f l0 = some r) :
    Calls Try.prog 77 #[.slice A0 l0.length c0] w fun e w'=>∃ v0_:Value,e = .returned (v0_)∧Kd.R k31 31 w' w.heap.size (fun _=>True) v0_ r∧Below w.heap.size w w':=by
  unfold api_Point_77.f at h
  by_cases hl:l0.length<8796093022208
  · rw [if_pos hl] at h
    obtain rfl:l0=r:=Option.some.inj h
    have hnil:=fun (V:World) (A0:Option Addr) (n c:Nat)=>Lib.run_eql_slice_nil (P:=Try.prog) V 32 31 A0 n c 0 0 Try.underlying32
    have HR0:=aK hr0
    have HL:=aK hl
    clear hr0 h hl
    have HB:=aK (Below.refl w.heap.size w)
    cases A0 with
    | none =>
      have he:l0=[]:=by
        rcases Nat.eq_zero_or_pos l0.length with h0|h0
        · exact List.length_eq_zero_iff.mp h0
        · obtain ⟨ad,e,_⟩:=HR0.out.2.2 h0
          cases e
      subst he
      go_enter Try.func77,Try.ntmps77
      go_wp2
      go_ret
      exact ⟨_,rfl,Kd.R_nil _ _ _ _ _,Below.refl _ _⟩
    | some ad =>
      go_enter Try.func77,Try.ntmps77
      go_wp2_with (first|((with_reducible refine gate_dst (N:=5) rfl ?_);refine Kd.R_lit k31 _ 31 ?hg (N:=5) ?hd (xs:=([]:List S31)) (inner:=[]) (ok:=fun _=>True) (okp:=fun _=>True) ?hr ?hp (fun _ hk=>hk) trivial (Below.refl _ _) (Nat.le_refl _) (by simp) ?_;(case hd=>rfl);(case hg=>rfl);(case hr=>first|(go_simp;done)|(go_simp;rfl));(case hp=>exact (Reps.none _ _));intro v187 w3 ho4 hb hg_ hnew_;clear hg_ hnew_;have n0_:=aK (Kd.R_lower ho4 (below_size HB.out));have n1_:=aK (below_step HB.out hb);clear HB;have HO188:=n0_;have HB:=n1_;clear n0_ n1_;clear hb ho4)|((with_reducible refine gate_builtin (b:=.append) (xs:=#[.tmp 5,.tmp 6]) rfl ?_);at_builtin;refine Kd.R_append_rows k31 (w0:=w) w.heap.size rfl (.tmp 5) (.tmp 6) 32 31 (.agg #[(.int .i64 0),(.int .i64 0)]) 16 rfl Try.underlying32 info31 rfl (by decide) (by omega) v187 [] l0 _ _ _ (fun _=>True) (fun _=>False) rfl rfl ?aO ?aR (fun _ _ h=>h) (fun _ h=>h.elim) ?aF ?aB ?aS ?aL ?_;(case aR=>repeat (first|exact (Kd.C_below HR0.out HB.out)|(with_reducible refine Kd.C_alloc ?_ _)|(with_reducible refine Kd.C_drewN ?_ _)|(with_reducible refine Kd.C_drew ?_)));(case aB=>exact (by repeat (first|(with_reducible first|exact HB.out|apply below_alloc|apply pw_below_drewN|apply below_drew1)|exact HB.out)));(case aF=>exact (fun _ _=>trivial));(case aO=>exact (by (with_reducible repeat (first|apply Kd.R_alloc|apply Kd.R_drewN|apply Kd.R_drew));exact HO188.out));(case aS=>exact (below_size (by repeat (first|(with_reducible first|exact HB.out|apply below_alloc|apply pw_below_drewN|apply below_drew1)|exact HB.out))));(case aL=>have:=HL.out;simp only [List.length_nil];omega);intro v190 w5 ho hb hg hat;have n0_:=aK (hb);have n1_:=aK (ho);clear HB;clear HO188;have HB:=n0_;have HO191:=n1_;clear n0_ n1_;clear ho hb hg hat))
      go_ret
      exact ⟨_,rfl,by (with_reducible repeat (first|apply Kd.R_alloc|apply Kd.R_drewN|apply Kd.R_drew));exact HO191.out,by repeat (first|(with_reducible first|exact HB.out|apply below_alloc|apply pw_below_drewN|apply below_drew1)|exact HB.out)⟩
  · rw [if_neg hl] at h
    exact absurd h (by simp)

theorem hold_ {p:Prop} (h:id p):p:=h
theorem pts1 (p:S31):PtsAt #[.int .i64 p.f0,.int .i64 p.f1] [p]:=by
  intro j x hj
  match j,hj with
  | 0, hj => obtain rfl : p = x := by simpa using hj
             exact ⟨rfl,rfl⟩
  | j+1,hj=>simp at hj
def popV (p : S31) : List S31 → List S31
  | b::a::r=>if signV a b p≤0 then popV p (a::r) else b::a::r
  | st=>st
def pushV (st:List S31) (p:S31):List S31:=p::popV p st
theorem popV_len (p : S31) : ∀ st, (popV p st).length ≤ st.length
  | []=>Nat.le_refl _
  | [_]=>Nat.le_refl _
  | b::a::r=>by
    unfold popV
    split
    · have:=popV_len p (a::r);simp only [List.length_cons] at *;omega
    · exact Nat.le_refl _
def pen_chain.f (l0:List S31):Option (List S31):=if l0.length≤1000000 then some (l0.foldl pushV []).reverse else none
set_option maxHeartbeats 4000000 in
theorem pen_chain.calls (A0 : Option Addr) (c0 : Nat) (l0 : List S31) (r : List S31) (w : World) (hr0 : Kd.C k31 w A0 l0.length l0) (hc0 : l0.length ≤ c0) (h : pen_chain.f l0 = some r) :
    Calls Try.prog 80 #[.slice A0 l0.length c0] w fun e w'=>∃ v0_:Value,e = .returned (v0_)∧Kd.R k31 31 w' w.heap.size (fun _=>True) v0_ r∧Below w.heap.size w w':=by
  have hu:=Try.underlying31
  unfold pen_chain.f at h
  by_cases hl:l0.length≤1000000
  case neg=>rw [if_neg hl] at h;cases h
  rw [if_pos hl] at h
  have HRES:=aK (Option.some.inj h)
  have HL:=aK hl
  have HR0:=aK hr0
  clear h hl hr0
  go_enter Try.func80,Try.ntmps80
  go_wp2
  go_loopg [3,8] l0.length (fun gg s3 s8 wr=>∃ (kk:Nat) (st:List S31),kk≤l0.length∧l0.length≤gg+kk∧s8 = .int .i64 kk∧Aside0 ((l0.take kk).foldl pushV []=st)∧Aside0 (st.length≤kk)∧Aside0 (Kd.R k31 31 wr w.heap.size (fun _=>True) s3 st.reverse)∧Aside0 (Below w.heap.size w wr))
  case atStart=>exact ⟨0,[],by omega,by omega,rfl,⟨by simp⟩,⟨by simp⟩,⟨Kd.R_nil _ _ _ _ _⟩,⟨Below.refl w.heap.size w⟩⟩
  case round =>
    obtain ⟨kk,st0,hkk,hg,rfl,HST,HN,HO,HB⟩:=hrel
    obtain ⟨wo,hwo⟩ : ∃ wo:World,wo=wr:=⟨_,rfl⟩
    subst hwo
    by_cases hlt:kk<l0.length
    · have hlti:(kk:Int)<(l0.length:Int):=by omega
      have hk0:0≤(kk:Int):=by omega
      obtain ⟨ad,rfl,hx0,hx1⟩:=at_T31 HR0.out (kk:Int) hk0 hlti
      simp only [Int.toNat_natCast] at hx0 hx1
      have hx0:=(HB.out.cell (World.block_lt_of_cell? w _ hx0)).trans hx0
      have hx1:=(HB.out.cell (World.block_lt_of_cell? w _ hx1)).trans hx1
      have hw1:wrap64 ((kk:Int)+1)=((kk+1:Nat):Int):=by have:=HL.out;unfold wrap64;omega
      have hnext:(l0.take (kk+1)).foldl pushV []=rd_T31 l0 (kk:Int)::popV (rd_T31 l0 (kk:Int)) st0:=by
        rw [List.take_succ_eq_append_getElem hlt,List.foldl_append,HST.out]
        simp [rd_T31,List.getD_eq_getElem?_getD,List.getElem?_eq_getElem hlt,pushV]
      have HW1:=aK hw1
      have HNX:=aK hnext
      generalize rd_T31 l0 (kk:Int)=p at *
      clear hw1 hnext
      have O1:=aK (Kd.R_below (Kd.R_elderB HO.out wo.heap.size (Nat.le_refl _)) (below_alloc (Below.refl wo.heap.size wo) (.cells #[.int .i64 p.f0,.int .i64 p.f1] 31)))
      have P1:=aK (blk_new wo (.cells #[.int .i64 p.f0,.int .i64 p.f1] 31))
      have HB1:=aK (below_alloc HB.out (.cells #[.int .i64 p.f0,.int .i64 p.f1] 31))
      have HSP:=aK (show wo.heap.size<(wo.alloc (.cells #[.int .i64 p.f0,.int .i64 p.f1] 31)).heap.size by simp)
      go_upto_block 2 with (fail)
      generalize wo.alloc (.cells #[.int .i64 p.f0,.int .i64 p.f1] 31)=V at *
      go_cut [3] (fun v3 wc=>Aside0 (Kd.R k31 31 wc w.heap.size (fun k=>True∧k≠wo.heap.size) v3 (popV p st0).reverse)∧Aside0 (wc.heap[wo.heap.size]?=some (.cells #[.int .i64 p.f0,.int .i64 p.f1] 31 (0,0)))∧Aside0 (Below w.heap.size w wc))
      case first =>
        go_wp2_with fail
        go_loopg [3] st0.length (fun gg v3 wi=>∃ st:List S31,st.length≤gg∧Aside0 (popV p st=popV p st0)∧Aside0 (st.length≤kk)∧Aside0 (Kd.R k31 31 wi w.heap.size (fun k=>True∧k≠wo.heap.size) v3 st.reverse)∧Aside0 (wi.heap[wo.heap.size]?=some (.cells #[.int .i64 p.f0,.int .i64 p.f1] 31 (0,0)))∧Aside0 (Below w.heap.size w wi))
        case atStart=>exact ⟨st0,Nat.le_refl _,⟨rfl⟩,HN,O1,P1,HB1⟩
        case round =>
          clear HN O1 P1 HB1 hx0 hx1 HO
          obtain ⟨st,hgg,HPS,HSL,HOi,HPi,HBi⟩:=hrel
          obtain ⟨Ao,co,rfl⟩:=Kd.R_slice HOi.out
          obtain ⟨n,hn⟩ : ∃ n,st.reverse.length=n:=⟨_,rfl⟩
          have HO2:=HOi.out
          rw [hn] at HO2 ⊢
          have HOi:=aK HO2
          clear HO2
          by_cases hs : ∃ b a rr,st=b::a::rr
          · obtain ⟨b,a,rr,rfl⟩:=hs
            obtain ⟨m,hm⟩ : ∃ m,n=m+2:=⟨rr.length,by rw [← hn];simp⟩
            obtain ⟨q,hq⟩ : ∃ q,q=m+1:=⟨_,rfl⟩
            have hmr:m=rr.length:=by simp at hn;omega
            have hm6:m≤1000000:=by have:=HSL.out;have:=HL.out;simp at *;omega
            have hn1c:decide ((1:Int)<(n:Int))=true:=decide_eq_true (by omega)
            have hrd:=Kd.R_reads' HOi.out
            obtain ⟨ao,rfl,ha0,ha1⟩:=at_T31 hrd.2.2 (m:Int) (by omega) (by rw [hn];omega)
            obtain ⟨ao',e3,hb0,hb1⟩:=at_T31 hrd.2.2 (q:Int) (by omega) (by rw [hn];omega)
            obtain rfl:ao=ao':=by injection e3
            have ga:rd_T31 (b::a::rr).reverse (m:Int)=a:=by simp [rd_T31,List.getD_eq_getElem?_getD,hmr]
            have gb:rd_T31 (b::a::rr).reverse (q:Int)=b:=by simp [rd_T31,List.getD_eq_getElem?_getD,hq,hmr,List.getElem?_append]
            rw [ga] at ha0 ha1
            rw [gb] at hb0 hb1
            simp only [Int.toNat_natCast] at ha0 ha1 hb0 hb1
            have p0:=(blk_cell HPi.out 0).trans rfl
            have p1:=(blk_cell HPi.out 1).trans rfl
            have hbr:=below_drew1 (Below.refl wr.heap.size wr)
            have v1:IntKind.i64.wrap ((n:Int)-2)=(m:Int):=by rw [i64_w];unfold wrap64;omega
            have v2:IntKind.i64.wrap ((n:Int)-1)=(q:Int):=by rw [i64_w];unfold wrap64;omega
            have w2:wrap64 ((n:Int)-1)=(q:Int):=by unfold wrap64;omega
            have v3:(0:Int)≤(m:Int):=by omega
            have v4:(m:Int)<(n:Int):=by omega
            have v5:(0:Int)≤(q:Int):=by omega
            have v6:(q:Int)<(n:Int):=by omega
            have v7:(q:Int)≤(n:Int):=by omega
            have hqc:q≤co:=by have:=hrd.2.1;omega
            have HSC:=aK (fun V=>wind_Sign.calls a.f0 a.f1 b.f0 b.f1 p.f0 p.f1 _ V (sign_some a b p))
            have HM:=aK (And.intro hm (And.intro hq hmr))
            have HHN:=aK hn
            clear hm hq hmr hn hm6
            clear hrd e3 ga gb
            go_wp2_with fail
            go_region_held3 (fun w'=>w'.cell? (ao.add (m*2))=some (.int .i64 a.f0)∧w'.cell? ⟨(ao.add (m*2)).block,(ao.add (m*2)).off+1,none⟩=some (.int .i64 a.f1)∧w'.cell? (ao.add (q*2))=some (.int .i64 b.f0)∧w'.cell? ⟨(ao.add (q*2)).block,(ao.add (q*2)).off+1,none⟩=some (.int .i64 b.f1)∧w'.cell? ⟨wo.heap.size,0,none⟩=some (.int .i64 p.f0)∧w'.cell? ⟨wo.heap.size,1,none⟩=some (.int .i64 p.f1)∧Below wr.heap.size wr w') (first|exact ⟨ha0,ha1,hb0,hb1,p0,p1,hbr⟩|(obtain ⟨s0,s1,s2,s3,s4,s5,s6⟩:=‹_∧_∧_∧_∧_∧_∧Below _ _ _›;exact ⟨(hb.cell (World.block_lt_of_cell? _ _ s0)).trans s0,(hb.cell (World.block_lt_of_cell? _ _ s1)).trans s1,(hb.cell (World.block_lt_of_cell? _ _ s2)).trans s2,(hb.cell (World.block_lt_of_cell? _ _ s3)).trans s3,(hb.cell (World.block_lt_of_cell? _ _ s4)).trans s4,(hb.cell (World.block_lt_of_cell? _ _ s5)).trans s5,below_step s6 hb⟩)) ((go_at_call 62;refine (HSC.out _).mono ?_;rintro e W2 ⟨rfl,hb⟩))
            obtain ⟨-,-,-,-,-,-,s6⟩:=‹_∧_∧_∧_∧_∧_∧Below _ _ _›
            have O2:=aK (Kd.R_below HOi.out s6)
            have P2:=aK (blk_below HPi.out s6)
            have B2:=aK (below_step HBi.out s6)
            clear s6 ha0 ha1 hb0 hb1 p0 p1 hbr HOi HPi HBi HSC
            have hpop:popV p (b::a::rr)=if signV a b p≤0 then popV p (a::rr) else b::a::rr:=rfl
            by_cases hs:signV a b p≤0
            · have hsb:decide (signV a b p≤0)=true:=decide_eq_true hs
              have HPP:=aK (show popV p (a::rr)=popV p st0 by rw [← HPS.out,hpop,if_pos hs])
              have HTK:=aK (show (b::a::rr).reverse.take q=(a::rr).reverse by
                obtain ⟨e1,e2,e3⟩:=HM.out
                rw [show (b::a::rr).reverse=(a::rr).reverse++[b] by simp,List.take_append_of_le_length (by simp;omega),List.take_of_length_le (by simp;omega)])
              have O3:=aK (Kd.R_take O2.out (show q≤(b::a::rr).reverse.length by have:=HM.out;have:=HHN.out;omega))
              clear hpop
              go_wp2
              go_roundg (a::rr).length
              case measure=>simp only [List.length_cons] at hgg ⊢;omega
              case rel=>exact ⟨a::rr,Nat.le_refl _,HPP,⟨by have:=HSL.out;simp only [List.length_cons] at this ⊢;omega⟩,⟨by rw [← HTK.out];exact O3.out⟩,P2,B2⟩
            · have hsb:decide (signV a b p≤0)=false:=decide_eq_false hs
              have HPP:=aK (show popV p st0=b::a::rr by rw [← HPS.out,hpop,if_neg hs])
              clear hpop
              go_wp2
              go_meet
              case rel=>exact ⟨⟨by rw [HPP.out];exact O2.out⟩,P2,B2⟩
          · have hpop:popV p st=st:=by
              match st,hs with
              | [],_=>rfl
              | [_],_=>rfl
              | b::a::rr,hs=>exact absurd ⟨b,a,rr,rfl⟩ hs
            have hn1 : ¬ (n:Int)>1:=by
              rw [← hn,List.length_reverse]
              match st,hs with
              | [],_=>simp
              | [_],_=>simp
              | b::a::rr,hs=>exact absurd ⟨b,a,rr,rfl⟩ hs
            have hn1b:decide ((n:Int)>1)=false:=decide_eq_false hn1
            have hn1c:decide ((1:Int)<(n:Int))=false:=hn1b
            have HPP:=aK (HPS.out.symm.trans hpop)
            clear hs hgg hpop
            go_wp2_with fail
            go_quiet (fail)
            go_wp2
            go_meet
            case rel=>exact ⟨⟨by rw [HPP.out];exact Kd.R_drewN HOi.out _⟩,⟨blk_drewN HPi.out _⟩,⟨pw_below_drewN HBi.out _⟩⟩
      case rest =>
        obtain ⟨O4,P4,B4⟩:=hcut
        clear O1 P1 HB1 hx0 hx1 HO HB
        generalize hst:(popV p st0).reverse=out at *
        have hol:out.length≤kk:=by rw [← hst,List.length_reverse];exact Nat.le_trans (popV_len p st0) HN.out
        have HOL:=aK hol
        have HS2:=aK hst
        clear hol hst
        obtain ⟨Ao,co,rfl⟩:=Kd.R_slice O4.out
        have p0:=(blk_cell P4.out 0).trans rfl
        have p1:=(blk_cell P4.out 1).trans rfl
        have HRY:=aK (Kd.R_reads' (row_of_pts (base:=wc.heap.size) (ok:=fun _=>True) (cap:=1) (d:=[p]) (blk_new wc (.cells #[.int .i64 p.f0,.int .i64 p.f1] 31)) (pts1 p) (Nat.le_refl _) trivial (by simp) (by omega) rfl)).2.2
        have HOA:=aK (Kd.R_below O4.out (below_alloc (Below.refl wc.heap.size wc) (.cells #[.int .i64 p.f0,.int .i64 p.f1] 31)))
        have HBB:=aK (below_alloc B4.out (.cells #[.int .i64 p.f0,.int .i64 p.f1] 31))
        have HGP:=aK (show wo.heap.size<wc.heap.size from blk_lt P4.out)
        go_wp2_with ((with_reducible refine gate_builtin (b:=.append) (xs:=#[.tmp 37,.tmp 39]) rfl ?_);at_builtin;refine hold_ ?_)
        change wpList _ _ _ _ _ _
        refine Kd.R_append_rows k31 (w0:=w) w.heap.size rfl (.tmp 37) (.tmp 39) 32 31 (.agg #[(.int .i64 0),(.int .i64 0)]) 16 rfl Try.underlying32 info31 rfl (by decide) (by omega) (.slice Ao out.length co) out [p] _ _ _ (fun k=>True∧k≠wo.heap.size) (fun _=>False) rfl rfl HOA.out HRY.out (fun _ _ h=>h) (fun _ h=>h.elim) (fun k hk=>⟨trivial,by have:=HGP.out;have hk':(wc.alloc (.cells #[.int .i64 p.f0,.int .i64 p.f1] 31)).heap.size≤k:=hk;rw [World.size_alloc] at hk';omega⟩) HBB.out (below_size HBB.out) (by have:=HOL.out;have:=HL.out;omega) ?_
        intro v1 w5 ho hb hg2 hat
        have HO5:=aK (Kd.R_mono ho (fun _ _=>trivial : ∀ k,_→(fun _:Nat=>True) k))
        have HB5:=aK hb
        clear ho hb hg2 hat p0 p1
        go_wp2
        go_roundg (l0.length-(kk+1))
        case measure=>omega
        case rel=>exact ⟨kk+1,p::popV p st0,by omega,by omega,congrArg (Value.int .i64) HW1.out,HNX,⟨by have:=HOL.out;rw [← HS2.out,List.length_reverse] at this;simp only [List.length_cons];omega⟩,⟨by rw [List.reverse_cons,HS2.out];exact HO5.out⟩,HB5⟩
    · have hlti : ¬ (kk:Int)<(l0.length:Int):=by omega
      obtain rfl:kk=l0.length:=by omega
      obtain rfl:st0.reverse=r:=by rw [← HRES.out,← HST.out,List.take_length]
      clear HRES HST
      go_wp2
      go_ret
      exact ⟨_,rfl,HO.out,HB.out⟩

end Go.Proofs.Ytckjlckhjcbddaa.PH3
