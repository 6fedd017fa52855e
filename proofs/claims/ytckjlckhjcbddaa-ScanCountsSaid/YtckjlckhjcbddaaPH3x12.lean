import Derived.Test.YtckjlckhjcbddaaPH3x0
import Derived.Test.YtckjlckhjcbddaaPH3x3
import Derived.Test.YtckjlckhjcbddaaPH3x5
import Derived.Test.YtckjlckhjcbddaaPH3x6
import Derived.Test.YtckjlckhjcbddaaPH3x9
set_option maxRecDepth 100000
namespace Go.Proofs.Ytckjlckhjcbddaa.PH3
open Go.RowKit Go.Proofs.YtckjlckhjcbddaaW.PrintWords Go.Proofs.YtckjlckhjcbddaaW.PrintLast Go.Proofs.YtckjlckhjcbddaaW.PrintMore
attribute [local go_sem] max2_int min2_int max_two min_two max_three min_three max_four min_four
set_option linter.unusedVariables false
set_option linter.unusedSimpArgs false
def fromV (v:Int):Int:=(scan_from.f v).getD 0
theorem from_some (v:Int):scan_from.f v=some (fromV v):=by
 unfold fromV scan_from.f scan_floor.f
 rw [if_neg (by decide)]
 split <;> rfl
theorem grown_cellR (W:World) (b j:Nat) (v:Value):W.grownBy (W.setCell ⟨b,j,none⟩ v) (some b) :=
 ⟨rfl,rfl,rfl,by simp [World.setCell],fun k _ hk=>Below.heap_setCell _ _ _ k (fun e=>hk (by rw [e]))⟩
def rowFirst (a b:S31):Int:=mx (fromV (mn a.f1 b.f1)) 0
def rowLast (a b:S31):Int:=mn (wrap64 (fromV (mx a.f1 b.f1)-1)) 255
def rowsE (s:Int×Int) (a b:S31):Int×Int:=if rowFirst a b≤rowLast a b then (mn s.1 (rowFirst a b),mx s.2 (rowLast a b)) else s
set_option maxHeartbeats 4000000 in
theorem rows1_calls (a b : S31) (o0 o1 : Int) (bo : Nat) (W : World) (h1 : W.heap[bo]? = some (.cells #[.int .i64 o0, .int .i64 o1] 36 (0, 0))) :
  Calls Try.prog 26 #[edgeV a b,.pointer (some ⟨bo,0,none⟩)] W fun e w'=>e = .returned (.tuple #[])∧W.grownBy w' (some bo)∧w'.heap[bo]?=some (.cells #[.int .i64 (rowsE (o0,o1) a b).1,.int .i64 (rowsE (o0,o1) a b).2] 36 (0,0)):=by
 have hu:=Try.underlying31
 have hu2:=Try.underlying51
 have hu3:=Try.underlying36
 obtain ⟨m,hm⟩ : ∃ m,mn a.f1 b.f1=m:=⟨_,rfl⟩
 obtain ⟨x,hx⟩ : ∃ x,mx a.f1 b.f1=x:=⟨_,rfl⟩
 have hf:=fun V=>scan_from.calls m (fromV m) V (from_some m)
 have hg:=fun V=>scan_from.calls x (fromV x) V (from_some x)
 have hE:rowsE (o0,o1) a b=if mx (fromV m) 0≤mn (wrap64 (fromV x-1)) 255 then (mn o0 (mx (fromV m) 0),mx o1 (mn (wrap64 (fromV x-1)) 255)) else (o0,o1):=by unfold rowsE rowFirst rowLast;rw [hm,hx]
 generalize fromV m=f at *
 generalize fromV x=g at *
 obtain ⟨p,hp⟩ : ∃ p,mx f 0=p:=⟨_,rfl⟩
 obtain ⟨q,hq⟩ : ∃ q,mn (wrap64 (g-1)) 255=q:=⟨_,rfl⟩
 rw [hp,hq] at hE
 have em:(if b.f1<a.f1 then b.f1 else a.f1)=m:=hm
 have ex:(if a.f1<b.f1 then b.f1 else a.f1)=x:=hx
 have ep:(if f<0 then 0 else f)=p:=hp
 have eq:(if 255<wrap64 (g-1) then 255 else wrap64 (g-1))=q:=hq
 have hB:=below_alloc (Below.refl W.heap.size W) (.cells #[.int .i64 a.f0,.int .i64 a.f1,.int .i64 b.f0,.int .i64 b.f1] 51)
 have K1:=blk_alloc h1 (.cells #[.int .i64 a.f0,.int .i64 a.f1,.int .i64 b.f0,.int .i64 b.f1] 51)
 have K2:=blk_new W (.cells #[.int .i64 a.f0,.int .i64 a.f1,.int .i64 b.f0,.int .i64 b.f1] 51)
 have a1:=(blk_cell K2 1).trans rfl
 have a3:=(blk_cell K2 3).trans rfl
 have HF:=aK hf
 have HG:=aK hg
 have HE:=aK hE
 have HB:=aK hB
 have HK1:=aK K1
 clear hf hg hE hm hx hp hq hB K1 K2 h1
 unfold edgeV
 by_cases hpq:p≤q
 ·have d:decide (p≤q)=true:=decide_eq_true hpq
  have HV:=aK (show rowsE (o0,o1) a b=(mn o0 p,mx o1 q) by rw [HE.out,if_pos hpq])
  have e0:(if p<o0 then p else o0)=mn o0 p:=rfl
  have e1:(if o1<q then q else o1)=mx o1 q:=rfl
  generalize mn o0 p=z0 at *
  generalize mx o1 q=z1 at *
  clear hpq HE
  go_enter Try.func26,Try.ntmps26
  go_wp2
  go_quiet (fail)
  go_wp2_with fail
  refine (HF.out _).mono ?_
  rintro e W1 ⟨rfl,⟨n1,rfl⟩⟩
  go_wp2_with fail
  refine (HG.out _).mono ?_
  rintro e W2 ⟨rfl,⟨n2,rfl⟩⟩
  have K:=aK (blk_drewN (blk_drewN HK1.out (nq+n1)) n2)
  have HBV:=aK (pw_below_drewN (pw_below_drewN HB.out (nq+n1)) n2)
  generalize ((W.alloc (.cells #[.int .i64 a.f0,.int .i64 a.f1,.int .i64 b.f0,.int .i64 b.f1] 51)).drewN (nq+n1)).drewN n2=V at *
  have c0:=(blk_cell K.out 0).trans rfl
  have c1:=(blk_cell K.out 1).trans rfl
  have g0:=blk_frozen K.out 0
  have K2:=blk_set K.out 0 (.int .i64 z0)
  have c2:=(blk_cell K2 1).trans rfl
  have g1:=blk_frozen K2 1
  have K3:=aK (blk_set K2 1 (.int .i64 z1))
  clear K2 a1 a3 HF HG
  go_wp2
  go_end0
  exact ⟨rfl,World.grownBy.trans (grown_of_below HBV.out _) (World.grownBy.trans (grown_cellR _ bo 0 _) (grown_cellR _ bo 1 _)),by rw [HV.out];exact K3.out⟩
 ·have d:decide (p≤q)=false:=decide_eq_false hpq
  have HV:=aK (show rowsE (o0,o1) a b=(o0,o1) by rw [HE.out,if_neg hpq])
  clear hpq HE
  go_enter Try.func26,Try.ntmps26
  go_wp2
  go_quiet (fail)
  go_wp2_with fail
  refine (HF.out _).mono ?_
  rintro e W1 ⟨rfl,⟨n1,rfl⟩⟩
  go_wp2_with fail
  refine (HG.out _).mono ?_
  rintro e W2 ⟨rfl,⟨n2,rfl⟩⟩
  have K:=aK (blk_drewN (blk_drewN HK1.out (nq+n1)) n2)
  have HBV:=aK (pw_below_drewN (pw_below_drewN HB.out (nq+n1)) n2)
  generalize ((W.alloc (.cells #[.int .i64 a.f0,.int .i64 a.f1,.int .i64 b.f0,.int .i64 b.f1] 51)).drewN (nq+n1)).drewN n2=V at *
  clear a1 a3 HF HG
  go_wp2
  go_end0
  exact ⟨rfl,grown_of_below HBV.out _,by rw [HV.out];exact K.out⟩
def rowEds (s : Int × Int) (l : List S31) : Nat → Int × Int
 | 0=>s
 | i+1=>rowsE (rowEds s l i) (rd_T31 l (i:Int)) (nxt l i)
def rowsA (ll : List (List S31)) : Nat → Int × Int
 | 0=>(256,-1)
 | i+1=>rowEds (rowsA ll i) (rd_L2 ll (i:Int)) (rd_L2 ll (i:Int)).length
def RowsI (w:World) (l:List S31) (s:Int×Int) (bo:Nat) (i:Nat) (W:World):Prop :=
 Below w.heap.size w W∧W.heap[w.heap.size]?=some (.cells #[.int .i64 0,.int .i64 0] 36 (0,0))∧W.heap[bo]?=some (.cells #[.int .i64 (rowEds s l i).1,.int .i64 (rowEds s l i).2] 36 (0,0))∧w.heap.size<bo
def scan_Rows.f (k:Nat) (l0:List (List S31)):Option (Int×Int×Int):=(wind_ValidAll.f k l0).bind fun v=>if v=true then (if l0.length≤1000000∧∀ l∈l0,l.length≤1000000000 then (if (rowsA l0 l0.length).2<0 then some (0,0,4) else some ((rowsA l0 l0.length).1,(rowsA l0 l0.length).2,0)) else none) else some (0,0,2)
theorem scan_Rows.mono : ∀ a0 k,LeO (scan_Rows.f k a0) (scan_Rows.f (k+1) a0):=by
 intro a0 k
 unfold scan_Rows.f
 exact LeO.bind (wind_ValidAll.mono _ _) (fun _=>LeO.refl _)
set_option maxHeartbeats 8000000 in
theorem scan_Rows.calls (k : Nat) (A0 : Option Addr) (c0 : Nat) (l0 : List (List S31)) (r1 r2 r3 : Int) (w : World) (hr0 : Kd.C (Kd.slice 31 k31) w A0 l0.length l0) (hc0 : l0.length ≤ c0) (h : scan_Rows.f k l0 = some (r1, r2, r3)) :
  Calls Try.prog 12 #[.slice A0 l0.length c0] w fun e w'=>e = .returned (.tuple #[.agg #[.int .i64 r1,.int .i64 r2],.int .i64 r3])∧Below w.heap.size w w':=by
 have hu:=Try.underlying31
 have hu3:=Try.underlying36
 obtain ⟨v,hv,h⟩:=Option.bind_eq_some_iff.mp h
 have HVA:=aK (fun V hV=>wind_ValidAll.calls k A0 c0 l0 v V hV hc0 hv)
 have HR:=aK hr0
 have X0:=aK (blk_new w (.cells #[.int .i64 0,.int .i64 0] 36))
 have HB0:=aK (below_alloc (Below.refl w.heap.size w) (.cells #[.int .i64 0,.int .i64 0] 36))
 clear hv hr0 hc0
 cases v with
 | false =>
  simp only [Bool.false_eq_true,if_false,Option.some.injEq,Prod.mk.injEq] at h
  obtain ⟨rfl,rfl,rfl⟩:=h
  go_enter Try.func12,Try.ntmps12
  go_wp2_with fail
  refine (HVA.out _ (Kd.C_below HR.out HB0.out)).mono ?_
  rintro e W1 ⟨rfl,hb⟩
  have X1:=blk_below X0.out hb
  have HB1:=aK (below_step HB0.out hb)
  have c0:=(blk_cell X1 0).trans rfl
  have g0:=blk_frozen X1 0
  have X2:=blk_set X1 0 (.int .i64 0)
  have c1:=(blk_cell X2 1).trans rfl
  have g1:=blk_frozen X2 1
  have X3:=aK (blk_set X2 1 (.int .i64 0))
  clear hb X1 X2 HVA
  go_wp2
  refine bodyPost_ret (results_ct rfl _ _ w.heap.size 36 #[.int .i64 0,.int .i64 0] (0,0) _ rfl X3.out Try.underlying36 rfl (by kernel_rfl)) rfl ?_
  exact ⟨rfl,below_set (below_set HB1.out (Nat.le_refl _)) (Nat.le_refl _)⟩
 | true =>
  rw [if_pos rfl] at h
  by_cases hl:l0.length≤1000000∧∀ l∈l0,l.length≤1000000000
  case neg=>rw [if_neg hl] at h;cases h
  rw [if_pos hl] at h
  have HL:=aK hl
  have HRES:=aK h
  clear h hl
  go_enter Try.func12,Try.ntmps12
  go_wp2_with fail
  refine (HVA.out _ (Kd.C_below HR.out HB0.out)).mono ?_
  rintro e W1 ⟨rfl,hb⟩
  have X1:=aK (blk_below X0.out hb)
  have HB1:=aK (below_step HB0.out hb)
  have HLT:=aK (blk_lt (blk_below X0.out hb))
  clear hb HVA
  go_wp2
  go_loopg [14] l0.length (fun gg s14 wr=>∃ kk:Nat,kk≤l0.length∧l0.length≤gg+kk∧s14 = .int .i64 kk∧Aside0 (RowsI w [] (rowsA l0 kk) W1.heap.size 0 wr))
  case atStart=>exact ⟨0,by omega,by omega,rfl,⟨below_alloc HB1.out _,blk_alloc X1.out _,blk_new _ _,HLT.out⟩⟩
  case round =>
   obtain ⟨kk,hkk,hgg,rfl,HI⟩:=hrel
   by_cases hlt:kk<l0.length
   ·have hlti:(kk:Int)<(l0.length:Int):=by omega
    have hltd:decide ((kk:Int)<(l0.length:Int))=true:=decide_eq_true hlti
    have q0:(0:Int)≤(kk:Int):=by omega
    obtain ⟨ad,A1,c1,e1,hx,hl1,hi1⟩:=at_L2 HR.out (kk:Int) q0 hlti
    cases e1
    replace hx:=(HI.out.1.cell (World.block_lt_of_cell? w _ hx)).trans hx
    simp only [Int.toNat_natCast] at hx
    have HI1:=aK hi1
    have HLX:=aK (HL.out.2 (rd_L2 l0 (kk:Int)) (by simp [rd_L2,List.getD_eq_getElem?_getD,List.getElem?_eq_getElem hlt]))
    have HST:=aK (show rowsA l0 (kk+1)=rowEds (rowsA l0 kk) (rd_L2 l0 (kk:Int)) (rd_L2 l0 (kk:Int)).length from rfl)
    have HW:=aK (show wrap64 ((kk:Int)+1)=((kk+1:Nat):Int) by have:=HL.out.1;unfold wrap64;omega)
    generalize rd_L2 l0 (kk:Int)=p at *
    have HN:=aK (show kk<l0.length∧l0.length≤gk+kk from ⟨hlt,hgg⟩)
    clear hi1 hl1 hgg hkk hlt
    go_wp2_with fail
    refine (Edges_calls 26 #[.pointer (some ⟨W1.heap.size, 0, none⟩)] (RowsI w p (rowsA l0 kk) W1.heap.size) (enters_own Try.func26 (by kernel_rfl) rfl) A1 c1 p w _
     (fun i W hi ⟨k0,k1,k2,k3⟩=>(rows1_calls (rd_T31 p (i:Int)) (nxt p i) _ _ W1.heap.size W k2).mono (fun e w' ⟨he,hg,hk⟩=>⟨he,k0.grown hg k0.size (fun k hk'=>by injection hk' with hk';omega),blk_grown k1 hg (by simp;omega),hk,k3⟩))
     (fun i W h=>h.1) (fun i W o h=>⟨below_alloc h.1 o,blk_alloc h.2.1 o,blk_alloc h.2.2.1 o,h.2.2.2⟩) (fun i W n h=>⟨pw_below_drewN h.1 n,blk_drewN h.2.1 n,blk_drewN h.2.2.1 n,h.2.2.2⟩)
     HI.out HI1.out HLX.out).mono ?_
    rintro e W6 ⟨rfl,HI6⟩
    have HI7:=aK (show RowsI w [] (rowsA l0 (kk+1)) W1.heap.size 0 W6 by rw [HST.out];exact HI6)
    clear HI6 HI HST
    go_wp2
    go_roundg (l0.length-(kk+1))
    case measure=>have:=HN.out;omega
    case rel=>exact ⟨kk+1,by have:=HN.out;omega,by omega,by first|rfl|exact congrArg (Value.int .i64) HW.out,HI7⟩
   ·have hltd:decide ((kk:Int)<(l0.length:Int))=false:=decide_eq_false (by omega)
    obtain rfl:kk=l0.length:=by omega
    clear hkk hgg hlt
    obtain ⟨k0,k1,k2,k3⟩:=HI.out
    have hres:=HRES.out
    simp only [rowEds] at k2
    generalize rowsA l0 l0.length=s at *
    obtain ⟨s1,s2⟩:=s
    simp only at k2 hres
    have a1:=(blk_cell k2 1).trans rfl
    have a0:=(blk_cell k2 0).trans rfl
    have b0:=(blk_cell k1 0).trans rfl
    have f0:=blk_frozen k1 0
    have K0:=aK k0
    have K1:=aK k1
    by_cases hs:s2<0
    ·rw [if_pos hs] at hres
     have hsd:decide (s2<0)=true:=decide_eq_true hs
     simp only [Option.some.injEq,Prod.mk.injEq] at hres
     obtain ⟨rfl,rfl,rfl⟩:=hres
     have X2:=blk_set k1 0 (.int .i64 0)
     have b1:=(blk_cell X2 1).trans rfl
     have f1:=blk_frozen X2 1
     have X3:=aK (blk_set X2 1 (.int .i64 0))
     clear k0 k1 k2 k3 X2 hs
     go_wp2
     refine bodyPost_ret (results_ct rfl _ _ w.heap.size 36 #[.int .i64 0,.int .i64 0] (0,0) _ rfl X3.out Try.underlying36 rfl (by kernel_rfl)) rfl ?_
     exact ⟨rfl,below_set (below_set K0.out (Nat.le_refl _)) (Nat.le_refl _)⟩
    ·rw [if_neg hs] at hres
     have hsd:decide (s2<0)=false:=decide_eq_false hs
     simp only [Option.some.injEq,Prod.mk.injEq] at hres
     obtain ⟨rfl,rfl,rfl⟩:=hres
     have X2:=blk_set k1 0 (.int .i64 s1)
     have b1:=(blk_cell X2 1).trans rfl
     have f1:=blk_frozen X2 1
     have X3:=aK (blk_set X2 1 (.int .i64 s2))
     clear k0 k1 k2 k3 X2 hs
     go_wp2
     refine bodyPost_ret (results_ct rfl _ _ w.heap.size 36 #[.int .i64 s1,.int .i64 s2] (0,0) _ rfl X3.out Try.underlying36 rfl (by kernel_rfl)) rfl ?_
     exact ⟨rfl,below_set (below_set K0.out (Nat.le_refl _)) (Nat.le_refl _)⟩
end Go.Proofs.Ytckjlckhjcbddaa.PH3
