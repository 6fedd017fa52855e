import Derived.Test.YtckjlckhjcbddaaPH3x0
import Derived.Test.YtckjlckhjcbddaaPH3x3
import Derived.Test.YtckjlckhjcbddaaPH3x4
import Derived.Test.YtckjlckhjcbddaaPH3x5
import Derived.Test.YtckjlckhjcbddaaPH3x6
import Derived.Test.YtckjlckhjcbddaaPH3x7
import Derived.Test.YtckjlckhjcbddaaPH3x8
import Derived.Test.YtckjlckhjcbddaaPH3x9
import Derived.Test.YtckjlckhjcbddaaPH3x11
import Derived.Test.YtckjlckhjcbddaaPH3x12
set_option maxRecDepth 100000
namespace Go.Proofs.Ytckjlckhjcbddaa.PH3
open Go.RowKit Go.Proofs.YtckjlckhjcbddaaW.PrintWords Go.Proofs.YtckjlckhjcbddaaW.PrintLast Go.Proofs.YtckjlckhjcbddaaW.PrintMore
attribute [local go_sem] max2_int min2_int max_two min_two max_three min_three max_four min_four
set_option linter.unusedVariables false
set_option linter.unusedSimpArgs false

def wayB (a b:S31) (y:Int):Int:=if a.f1≤y∧y<b.f1 then 1 else if b.f1≤y∧y<a.f1 then -1 else 0
def crossB (a b p:S31):Int:=(b.f0-a.f0)*(p.f1-a.f1)-(b.f1-a.f1)*(p.f0-a.f0)
def sgnB (n:Int):Int:=if n<0 then -1 else if 0<n then 1 else 0
def sideB (a b p:S31):Int:=sgnB (crossB a b p)*wayB a b p.f1
def ctermB (a b p:S31) (side:Int) (ofv:Int→Int):Int:=if wayB a b p.f1=0 then 0 else if sideB a b p=side then ofv (wayB a b p.f1) else 0
def csum (l : List S31) (p : S31) (side : Int) (ofv : Int → Int) : Nat → Int
  | 0=>0
  | i+1=>csum l p side ofv i+ctermB (rd_T31 l (i:Int)) (nxt l i) p side ofv
theorem isPt_bounds {x:S31} (h:isPt x=true) : -268435455≤x.f0∧x.f0≤268435455∧-268435455≤x.f1∧x.f1≤268435455:=by
  unfold isPt at h
  simp only [Bool.and_eq_true,decide_eq_true_eq] at h
  omega
theorem wayB_cases (a b:S31) (y:Int):wayB a b y=0∨wayB a b y=1∨wayB a b y = -1:=by unfold wayB;split <;> (try split) <;> simp
theorem sgnB_cases (n:Int):sgnB n=0∨sgnB n=1∨sgnB n = -1:=by unfold sgnB;split <;> (try split) <;> simp
theorem wrap64_idC {n:Int} (h : -9223372036854775808≤n) (h':n≤9223372036854775807):wrap64 n=n:=by unfold wrap64;omega
theorem mul_bound {x y:Int} (hx : -536870910≤x) (hx':x≤536870910) (hy : -536870910≤y) (hy':y≤536870910) : -288230374541099008≤x*y∧x*y≤288230374541099008:=by
  have h1:(536870910-x)*(536870910+y)≥0:=Int.mul_nonneg (by omega) (by omega)
  have h2:(536870910+x)*(536870910-y)≥0:=Int.mul_nonneg (by omega) (by omega)
  have h3:(536870910-x)*(536870910-y)≥0:=Int.mul_nonneg (by omega) (by omega)
  have h4:(536870910+x)*(536870910+y)≥0:=Int.mul_nonneg (by omega) (by omega)
  rw [Int.sub_mul,Int.mul_add,Int.mul_add] at h1
  rw [Int.add_mul,Int.mul_sub,Int.mul_sub] at h2
  rw [Int.sub_mul,Int.mul_sub,Int.mul_sub] at h3
  rw [Int.add_mul,Int.mul_add,Int.mul_add] at h4
  generalize x*y=z at *
  omega
theorem way_is (k:Nat) (a b:S31) (y:Int):wind_Edge_Way.f (k+1) a.f0 a.f1 b.f0 b.f1 y=some (wayB a b y):=by
  unfold wind_Edge_Way.f wayB
  simp only [wind_Edge_Way.j0,decide_eq_true_eq,Bool.false_eq_true,if_false]
  repeat' split
  all_goals first|rfl|(exfalso;omega)
theorem compare_is (x y:Int):cmp_Compare_int.f x y=some (sgnB (x-y)):=by
  unfold cmp_Compare_int.f cmp_isNaN_int.f sgnB
  simp only [Option.bind_some,bne_self_eq_false,Bool.false_eq_true,if_false]
  by_cases h:x<y
  · rw [if_pos h,if_pos (by omega)]
  · rw [if_neg h]
    by_cases h':x>y
    · rw [if_pos h',if_neg (by omega),if_pos (by omega)]
    · rw [if_neg h',if_neg (by omega),if_neg (by omega)]
theorem sign_is (a b p:S31) (ha:isPt a=true) (hb:isPt b=true) (hp:isPt p=true):wind_Sign.f a.f0 a.f1 b.f0 b.f1 p.f0 p.f1=some (sgnB (crossB a b p)):=by
  have ba:=isPt_bounds ha;have bb:=isPt_bounds hb;have bp:=isPt_bounds hp
  unfold wind_Sign.f
  have m1:=mul_bound (x:=b.f0-a.f0) (y:=p.f1-a.f1) (by omega) (by omega) (by omega) (by omega)
  have m2:=mul_bound (x:=b.f1-a.f1) (y:=p.f0-a.f0) (by omega) (by omega) (by omega) (by omega)
  rw [wrap64_idC (n:=b.f0-a.f0) (by omega) (by omega),wrap64_idC (n:=p.f1-a.f1) (by omega) (by omega),wrap64_idC (n:=b.f1-a.f1) (by omega) (by omega),wrap64_idC (n:=p.f0-a.f0) (by omega) (by omega),wrap64_idC (by omega) (by omega),wrap64_idC (by omega) (by omega),compare_is]
  rfl
theorem where_is (k:Nat) (a b p:S31) (ha:isPt a=true) (hb:isPt b=true) (hp:isPt p=true):wind_Edge_Where.f (k+1) a.f0 a.f1 b.f0 b.f1 p.f0 p.f1=some (sideB a b p):=by
  unfold wind_Edge_Where.f sideB
  rw [sign_is a b p ha hb hp,way_is]
  simp only [Option.bind_some]
  rcases sgnB_cases (crossB a b p) with h|h|h <;> rcases wayB_cases a b p.f1 with h'|h'|h' <;> rw [h,h',wrap64_idC (by decide) (by decide)]
theorem rd_mem (l:List S31) (i:Nat) (h:i<l.length):rd_T31 l (i:Int)∈l:=by
  simp [rd_T31,List.getD_eq_getElem?_getD,List.getElem?_eq_getElem h]
theorem nxt_mem (l:List S31) (i:Nat) (h:i<l.length):nxt l i∈l:=rd_mem l _ (Nat.mod_lt _ (by omega))
def okPoly (l:List S31):Bool:=decide (1≤l.length) && (decide (l.length≤60000) && l.all isPt)
def countB (l:List S31) (p:S31) (side:Int) (ofv:Int→Int):Int×Int:=if okPoly l && isPt p then (csum l p side ofv l.length,0) else (0,2)
theorem valid_is (l:List S31) (hlen:l.length≤9223372036854775807):wind_valid.f l=some (okPoly l):=by
  unfold wind_valid.f flat_ArePoints.f okPoly
  rw [if_pos hlen]
  by_cases h1:(l.length:Int)≥1
  · rw [if_pos h1,decide_eq_true (show 1≤l.length by omega)]
    by_cases h2:(l.length:Int)≤60000
    · rw [if_pos h2,decide_eq_true (show l.length≤60000 by omega)];simp
    · rw [if_neg h2,decide_eq_false (show ¬ l.length≤60000 by omega)];simp
  · rw [if_neg h1,decide_eq_false (show ¬ 1≤l.length by omega)];simp
def colOf (a b:S31) (y:Int):Int:=(scan_column.f 1 a.f0 a.f1 b.f0 b.f1 y).getD 0
theorem where_some (a b:S31) (x y:Int) : ∃ n,wind_Edge_Where.f 1 a.f0 a.f1 b.f0 b.f1 x y=some n:=by
  unfold wind_Edge_Where.f
  rw [way_is 0 a b y,sign_some a b ⟨x,y⟩]
  exact ⟨_,rfl⟩
theorem at_some (a b:S31) (y:Int) (ha:isPt a=true) (hb:isPt b=true) (hw:wayB a b y≠0) : ∃ n,wind_Edge_At.f a.f0 a.f1 b.f0 b.f1 y=some n:=by
  have ba:=isPt_bounds ha;have bb:=isPt_bounds hb
  have hd:b.f1-a.f1≠0:=by
    intro e
    apply hw
    unfold wayB
    rw [if_neg (by omega),if_neg (by omega)]
  unfold wind_Edge_At.f
  rw [wrap64_idC (n:=b.f1-a.f1) (by omega) (by omega),wrap64_idC (n:=-(b.f1-a.f1)) (by omega) (by omega)]
  by_cases h:b.f1-a.f1<0
  · rw [if_pos h,if_neg (by omega)]
    split <;> exact ⟨_,rfl⟩
  · rw [if_neg h,if_neg hd]
    split <;> exact ⟨_,rfl⟩
theorem column_some (a b:S31) (y:Int) (ha:isPt a=true) (hb:isPt b=true) (hw:wayB a b y≠0):scan_column.f 1 a.f0 a.f1 b.f0 b.f1 y=some (colOf a b y):=by
  obtain ⟨n,hn⟩:=at_some a b y ha hb hw
  have h : ∃ c,scan_column.f 1 a.f0 a.f1 b.f0 b.f1 y=some c:=by
    unfold scan_column.f scan_middle.f
    rw [hn]
    simp only [Option.bind_some]
    rw [from_some]
    simp only [Option.bind_some]
    obtain ⟨m,hm⟩:=where_some a b n y
    rw [hm]
    simp only [Option.bind_some]
    split
    · split <;> exact ⟨_,rfl⟩
    · exact ⟨_,rfl⟩
  obtain ⟨c,hc⟩:=h
  unfold colOf
  rw [hc];rfl
def crStep (xs:List S64) (a b:S31) (y:Int):List S64:=if wayB a b y=0 then xs else xs++[⟨mx (colOf a b y) 0,wayB a b y⟩]
def CrsAt (w:World) (y:Int) (bp bo:Nat) (xs:List S64) (W:World):Prop :=
  Below w.heap.size w W∧W.heap[bp]?=some (.cells #[.int .i64 y] 3 (0,0))∧∃ v,W.heap[bo]?=some (.cells #[v] 61 (0,0))∧Kd.R k64 64 W w.heap.size (fun k=>k≠bo∧k≠bp) v xs
section
variable (a b : S31) (ha : isPt a = true) (hb : isPt b = true) (y : Int) (xs : List S64) (v : Value) (bp bo : Nat) (w W : World)
  (hB:Below w.heap.size w W) (hbp:w.heap.size≤bp) (hbo:w.heap.size≤bo)
  (h1:W.heap[bp]?=some (.cells #[.int .i64 y] 3 (0,0))) (h2:W.heap[bo]?=some (.cells #[v] 61 (0,0)))
  (h3:Kd.R k64 64 W w.heap.size (fun k=>k≠bo∧k≠bp) v xs) (hl:xs.length≤1000000000)
include ha hb hB hbp hbo h1 h2 h3 hl
set_option maxHeartbeats 4000000 in
theorem inside1_calls :
    Calls Try.prog 34 #[edgeV a b,.pointer (some ⟨bp,0,none⟩),.pointer (some ⟨bo,0,none⟩)] W fun e w' =>
      e = .returned (.tuple #[])∧CrsAt w y bp bo (crStep xs a b y) w':=by
  have hu:=Try.underlying31
  have hu2:=Try.underlying51
  have hway:=fun V=>wind_Edge_Way.calls 1 a.f0 a.f1 b.f0 b.f1 y _ V (way_is 0 a b y)
  have hat:=fun V (hw:wayB a b y≠0)=>scan_column.calls 1 a.f0 a.f1 b.f0 b.f1 y _ V (column_some a b y ha hb hw)
  have HST:=aK (show crStep xs a b y=if wayB a b y=0 then xs else xs++[⟨mx (colOf a b y) 0,wayB a b y⟩] from rfl)
  generalize crStep xs a b y=ys at *
  have HA:=aK hat
  have HW:=aK hway
  clear hway hat ha hb
  generalize colOf a b y=x at *
  generalize wayB a b y=d at *
  have H1:=aK h1
  have H2:=aK h2
  have H3:=aK h3
  have HL:=aK hl
  have HB:=aK hB
  have HBP:=aK hbp
  have HBO:=aK hbo
  have HN:=aK (below_alloc (Below.refl W.heap.size W) (.cells #[.int .i64 a.f0,.int .i64 a.f1,.int .i64 b.f0,.int .i64 b.f1] 51))
  have hp0:=(blk_cell (blk_alloc h1 (.cells #[.int .i64 a.f0,.int .i64 a.f1,.int .i64 b.f0,.int .i64 b.f1] 51)) 0).trans rfl
  have hE:=blk_new W (.cells #[.int .i64 a.f0,.int .i64 a.f1,.int .i64 b.f0,.int .i64 b.f1] 51)
  have q0:=(blk_cell hE 0).trans rfl
  have q1:=(blk_cell hE 1).trans rfl
  have q2:=(blk_cell hE 2).trans rfl
  have q3:=(blk_cell hE 3).trans rfl
  have HE:=aK hE
  clear h1 h2 h3 hl hB hbp hbo hE
  unfold edgeV
  go_enter Try.func34,Try.ntmps34
  go_wp2_with fail
  refine (HW.out _).mono ?_
  rintro e W1 ⟨rfl,hb1⟩
  have HB1:=aK (below_step HN.out hb1)
  have e0:=blk_below HE.out hb1
  have b1:=blk_below H1.out HB1.out
  have b2:=blk_below H2.out HB1.out
  have H4:=aK (Kd.R_below H3.out HB1.out)
  clear hb1 hp0 q0 q1 q2 q3
  have c0:=blk_cell e0 0
  have c1:=blk_cell e0 1
  have c2:=blk_cell e0 2
  have c3:=blk_cell e0 3
  have c5:=blk_cell b1 0
  have c6:=blk_cell b2 0
  have c7:=blk_frozen b2 0
  have E0:=aK e0
  have B1:=aK b1
  have B2:=aK b2
  clear e0 b1 b2 HW HN HE H1 H2 H3
  simp at c0 c1 c2 c3 c5 c6
  by_cases hv:d=0
  · have v2:(d != 0)=false:=bne_eq_false_iff_eq.mpr hv
    have HV:=aK hv
    clear hv
    go_wp2
    go_end0
    exact ⟨rfl,below_then HB.out HB.out.size HB1.out,B1.out,v,B2.out,by rw [HST.out,if_pos HV.out];exact H4.out⟩
  · have v2:(d != 0)=true:=bne_iff_ne.mpr hv
    have HV:=aK hv
    have em:(if x<0 then 0 else x)=mx x 0:=rfl
    generalize mx x 0=z at *
    clear hv
    go_wp2
    refine start_ (n:=10) (S:=fun w'=>w'.cell? ⟨W.heap.size,0,none⟩=some (.int .i64 a.f0)∧w'.cell? ⟨W.heap.size,1,none⟩=some (.int .i64 a.f1)∧w'.cell? ⟨W.heap.size,2,none⟩=some (.int .i64 b.f0)∧w'.cell? ⟨W.heap.size,3,none⟩=some (.int .i64 b.f1)∧w'.cell? ⟨bp,0,none⟩=some (.int .i64 y)∧w'.cell? ⟨bo,0,none⟩=some v) (ds:=[8,9]) #[false,false,false,false,false,false,false,false,false,false] (by kernel_rfl) rfl rfl ⟨c0,c1,c2,c3,c5,c6⟩ (fun hHeld=>?_)
    refine pure_ (i:=5) (N:=some 15) (v:=?_) (a':=?_) #[false,false,false,false,false,true,false,false,false,false] rfl rfl (by kernel_rfl) (fun _ _ _ h=>h) (Or.inl ⟨by rfl,?_⟩) ?_ ?_
    rotate_left
    · intro w'
      go_simp
      with_reducible rfl
    rotate_left
    · simp only [Act.put,lS,i64_w,i32_w]
      rfl
    refine take_ (i:=0) (N:=some 10) (v:=?_) (a':=?_) #[true,false,false,false,false,true,false,false,false,false] rfl rfl (by kernel_rfl) (fun _ _ _ h=>h) (Or.inl ⟨by rfl,?_⟩) hHeld ?_ ?_
    rotate_left
    · rintro w' ⟨s0,s1,s2,s3,s4,s5⟩
      go_simp
      with_reducible rfl
    rotate_left
    · simp only [Act.put,lS,i64_w,i32_w]
      rfl
    refine take_ (i:=1) (N:=some 11) (v:=?_) (a':=?_) #[true,true,false,false,false,true,false,false,false,false] rfl rfl (by kernel_rfl) (fun _ _ _ h=>h) (Or.inl ⟨by rfl,?_⟩) hHeld ?_ ?_
    rotate_left
    · rintro w' ⟨s0,s1,s2,s3,s4,s5⟩
      go_simp
      with_reducible rfl
    rotate_left
    · simp only [Act.put,lS,i64_w,i32_w]
      rfl
    refine take_ (i:=2) (N:=some 12) (v:=?_) (a':=?_) #[true,true,true,false,false,true,false,false,false,false] rfl rfl (by kernel_rfl) (fun _ _ _ h=>h) (Or.inl ⟨by rfl,?_⟩) hHeld ?_ ?_
    rotate_left
    · rintro w' ⟨s0,s1,s2,s3,s4,s5⟩
      go_simp
      with_reducible rfl
    rotate_left
    · simp only [Act.put,lS,i64_w,i32_w]
      rfl
    refine one_ (i:=3) (N:=some 13) #[true,true,true,true,false,true,false,false,false,false] rfl rfl (by kernel_rfl) (by decide) (fun K hK=>?_)
    refine goes_ Try.func36 (by kernel_rfl) rfl #[.agg #[.int .i64 a.f0,.int .i64 a.f1,.int .i64 b.f0,.int .i64 b.f1],.int .i64 y] (by rfl) rfl rfl (by simp only [List.map_toArray,List.map_cons,List.map_nil];rfl) ?_
    refine (HA.out _ HV.out).mono ?_
    rintro e W3 ⟨rfl,hb3⟩
    have B1:=aK (blk_below (blk_drew B1.out) hb3)
    have B2:=aK (blk_below (blk_drew B2.out) hb3)
    have H5:=aK (Kd.R_below (Kd.R_drew H4.out) hb3)
    have HB3:=aK (below_step (below_drew1 HB1.out) hb3)
    clear H4 E0
    refine ⟨_,rfl,?_⟩
    refine hK.out _ _ ⟨(hb3.cell (World.block_lt_of_cell? _ _ hHeld.1)).trans hHeld.1,(hb3.cell (World.block_lt_of_cell? _ _ hHeld.2.1)).trans hHeld.2.1,(hb3.cell (World.block_lt_of_cell? _ _ hHeld.2.2.1)).trans hHeld.2.2.1,(hb3.cell (World.block_lt_of_cell? _ _ hHeld.2.2.2.1)).trans hHeld.2.2.2.1,(hb3.cell (World.block_lt_of_cell? _ _ hHeld.2.2.2.2.1)).trans hHeld.2.2.2.2.1,(hb3.cell (World.block_lt_of_cell? _ _ hHeld.2.2.2.2.2)).trans hHeld.2.2.2.2.2⟩ (fun hHeld=>?_)
    clear hK K
    refine norm_ (a':=?_) ?_ ?_
    rotate_left
    · show Act.put _ (some 13) _=_
      simp only [Act.put,lS,i64_w,i32_w]
      rfl
    refine pure_ (i:=4) (N:=some 14) (v:=?_) (a':=?_) #[true,true,true,true,true,true,false,false,false,false] rfl rfl (by kernel_rfl) (fun _ _ _ h=>h) (Or.inl ⟨by rfl,?_⟩) ?_ ?_
    rotate_left
    · intro w'
      go_simp
      with_reducible rfl
    rotate_left
    · simp only [Act.put,lS,i64_w,i32_w]
      rfl
    refine pure_ (i:=6) (N:=some 16) (v:=?_) (a':=?_) #[true,true,true,true,true,true,true,false,false,false] rfl rfl (by kernel_rfl) (fun _ _ _ h=>h) (Or.inl ⟨by rfl,?_⟩) ?_ ?_
    rotate_left
    · intro w'
      go_simp
      with_reducible rfl
    rotate_left
    · simp only [Act.put,lS,i64_w,i32_w]
      rfl
    refine one_ (i:=7) (N:=some 17) #[true,true,true,true,true,true,true,true,false,false] rfl rfl (by kernel_rfl) (by decide) (fun K hK=>?_)
    refine value_ (w1:=?_) (v:=?_) (by rfl) rfl ?_ ?_
    rotate_left 2
    · go_simp
      constructor
      · rfl
      · rfl
    refine hK.out _ _ ⟨(World.cell?_alloc_lt _ _ _ (World.block_lt_of_cell? _ _ (hHeld.1))).trans (hHeld.1),(World.cell?_alloc_lt _ _ _ (World.block_lt_of_cell? _ _ (hHeld.2.1))).trans (hHeld.2.1),(World.cell?_alloc_lt _ _ _ (World.block_lt_of_cell? _ _ (hHeld.2.2.1))).trans (hHeld.2.2.1),(World.cell?_alloc_lt _ _ _ (World.block_lt_of_cell? _ _ (hHeld.2.2.2.1))).trans (hHeld.2.2.2.1),(World.cell?_alloc_lt _ _ _ (World.block_lt_of_cell? _ _ (hHeld.2.2.2.2.1))).trans (hHeld.2.2.2.2.1),(World.cell?_alloc_lt _ _ _ (World.block_lt_of_cell? _ _ (hHeld.2.2.2.2.2))).trans (hHeld.2.2.2.2.2)⟩ (fun hHeld=>?_)
    clear hK K
    refine norm_ (a':=?_) ?_ ?_
    rotate_left
    · show Act.put _ (some 17) _=_
      simp only [Act.put,lS,i64_w,i32_w]
      rfl
    refine last_ (i:=8) (N:=some 18) #[true,true,true,true,true,true,true,true,true,false] rfl rfl (by kernel_rfl) (by decide) (fun K hK=>?_)
    have lb1:=lt_of_block B1.out
    have lb2:=lt_of_block B2.out
    refine Kd.R_append_step k64 (w0:=w) w.heap.size (by rfl) (.tmp 10) (.tmp 17) 61 64 (.agg #[.int .i64 0,.int .i64 0]) 16 rfl Try.underlying61 info64 rfl (by decide) (by omega) v xs (⟨z,d⟩:S64) [.int .i64 z,.int .i64 d] (fun k=>k≠bo∧k≠bp) (fun _=>False) rfl rfl (k64_mkM _ _ _ _) (fun _ h=>h.elim) ?aF H5.out ?aB ?aS ?aL ?_
    case aF=>exact fun k hk=>⟨by omega,by omega⟩
    case aB=>exact below_then HB.out HB.out.size HB3.out
    case aS=>exact Nat.le_trans HB.out.size HB3.out.size
    case aL=>have:=HL.out;omega
    intro v1 w5 ho hb5 hg hat
    obtain ⟨A1,k1,rfl⟩:=Kd.R_slice ho
    have n1:some bp≠v.ownBlock:=fun e=>(H5.out.1 bp e.symm).2 rfl
    have n2:some bo≠v.ownBlock:=fun e=>(H5.out.1 bo e.symm).1 rfl
    have B1:=aK (blk_grown B1.out hg n1)
    have B2:=aK (blk_grown B2.out hg n2)
    have H6:=aK ho
    have HB6:=aK hb5
    clear ho hb5 hg hat n1 n2 lb1 lb2
    refine hK.out _ _ ?_
    clear hK K
    refine norm_ (a':=?_) ?_ ?_
    rotate_left
    · show Act.put _ (some 18) _=_
      simp only [Act.put,lS,i64_w,i32_w]
      rfl
    refine last_ (i:=9) (N:=none) #[true,true,true,true,true,true,true,true,true,true] rfl rfl (by kernel_rfl) (by decide) (fun K hK=>?_)
    have f0:=blk_frozen B2.out 0
    have f1:=blk_cell B2.out 0
    simp at f1
    refine skip_ (w1:=?_) (by rfl) rfl ?_ ?_
    rotate_left
    · go_simp
      rfl
    refine hK.out _ _ ?_
    clear hK K
    refine done_ (by kernel_rfl) ?_
    go_end0
    exact ⟨rfl,HB6.out.setCell HBO.out _,blk_far B1.out (blk_ne B1.out B2.out (by decide)) _,_,one_setCell B2.out,by rw [HST.out,if_neg HV.out];have hq:=Kd.R_far (p:=⟨bo,0,none⟩) H6.out (fun k hk=>hk.1) (Value.slice A1 (xs.length+1) k1);rw [show (xs++[(⟨z,d⟩:S64)]).length=xs.length+1 by simp] at hq;exact hq⟩
end
--PART2
def crP (xs : List S64) (l : List S31) (y : Int) : Nat → List S64
  | 0=>xs
  | i+1=>crStep (crP xs l y i) (rd_T31 l (i:Int)) (nxt l i) y
def crA (ll : List (List S31)) (y : Int) : Nat → List S64
  | 0=>[]
  | i+1=>crP (crA ll y i) (rd_L2 ll (i:Int)) y (rd_L2 ll (i:Int)).length
theorem crStep_len (xs:List S64) (a b:S31) (y:Int):(crStep xs a b y).length≤xs.length+1:=by
  unfold crStep
  split
  · omega
  · simp
theorem crP_len (xs : List S64) (l : List S31) (y : Int) : ∀ i, (crP xs l y i).length ≤ xs.length + i
  | 0=>Nat.le_refl _
  | i+1=>by
    have h:=crP_len xs l y i
    have h2:=crStep_len (crP xs l y i) (rd_T31 l (i:Int)) (nxt l i) y
    show (crStep _ _ _ _).length≤_
    omega
def Ways (xs:List S64):Prop:=∀ c∈xs,c.f1=1∨c.f1 = -1
theorem crStep_ways {xs:List S64} (a b:S31) (y:Int) (h:Ways xs):Ways (crStep xs a b y):=by
  unfold crStep
  split
  · exact h
  · rename_i hn
    intro c hc
    rcases List.mem_append.mp hc with hc|hc
    · exact h c hc
    · obtain rfl:=List.mem_singleton.mp hc
      rcases wayB_cases a b y with h|h|h
      · exact absurd h hn
      · exact Or.inl h
      · exact Or.inr h
theorem crP_ways {xs : List S64} (l : List S31) (y : Int) (h : Ways xs) : ∀ i, Ways (crP xs l y i)
  | 0=>h
  | i+1=>crStep_ways _ _ _ (crP_ways l y h i)
theorem crA_ways (ll : List (List S31)) (y : Int) : ∀ i, Ways (crA ll y i)
  | 0=>fun c hc=>by cases hc
  | i+1=>crP_ways _ _ (crA_ways ll y i) _
def okAll (ll:List (List S31)):Bool:=ll.all okPoly && decide (ll.length≤50)
theorem okAll_at {ll:List (List S31)} (h:okAll ll=true) (i:Nat) (hi:i<ll.length):(rd_L2 ll (i:Int)).length≤60000∧∀ x∈rd_L2 ll (i:Int),isPt x=true:=by
  unfold okAll at h
  rw [Bool.and_eq_true,List.all_eq_true] at h
  have:=h.1 (rd_L2 ll (i:Int)) (by simp [rd_L2,List.getD_eq_getElem?_getD,List.getElem?_eq_getElem hi])
  unfold okPoly at this
  simp only [Bool.and_eq_true,decide_eq_true_eq,List.all_eq_true] at this
  exact ⟨this.2.1,this.2.2⟩
theorem crA_len {ll : List (List S31)} (h : okAll ll = true) (y : Int) : ∀ i, i ≤ ll.length → (crA ll y i).length ≤ 60000 * i
  | 0,_=>Nat.le_refl _
  | i+1,hi=>by
    have h1:=crA_len h y i (by omega)
    have h2:=crP_len (crA ll y i) (rd_L2 ll (i:Int)) y (rd_L2 ll (i:Int)).length
    have h3:=(okAll_at h i (by omega)).1
    show (crP _ _ _ _).length≤_
    omega
def sumC : List S64 → Int
  | []=>0
  | c::r=>c.f1+sumC r
theorem sumC_app (p q:List S64):sumC (p++q)=sumC p+sumC q:=by
  induction p with
  | nil=>simp [sumC]
  | cons c p ih=>simp only [List.cons_append,sumC,ih];omega
theorem sumC_perm {p q:List S64} (h:p.Perm q):sumC p=sumC q:=by
  induction h with
  | nil=>rfl
  | cons c _ ih=>simp only [sumC,ih]
  | swap a b l=>simp only [sumC];omega
  | trans _ _ h1 h2=>exact h1.trans h2
theorem sumC_abs : ∀ {r : List S64}, Ways r → -(r.length : Int) ≤ sumC r ∧ sumC r ≤ r.length
  | [],_=>by simp [sumC]
  | c::r,h=>by
    have h1:=sumC_abs (fun x hx=>h x (List.mem_cons_of_mem _ hx):Ways r)
    have h2:=h c List.mem_cons_self
    simp only [sumC,List.length_cons]
    omega
theorem sumC_take (r:List S64) (k:Nat) (h:k<r.length):sumC (r.take (k+1))=sumC (r.take k)+(rd_T64 r (k:Int)).f1:=by
  have e:rd_T64 r (k:Int)=r[k]:=by simp [rd_T64,List.getD_eq_getElem?_getD,List.getElem?_eq_getElem h]
  rw [e,List.take_succ_eq_append_getElem h,sumC_app]
  simp [sumC]
def behindC (L:List S64) (i:Int):List S64:=L.filter fun c=>decide (i<c.f0)
def bitI (even:Bool) (L:List S64) (i:Int):Bool:=if even then ((behindC L i).length:Int) % 2 == 1 else sumC (behindC L i) != 0
theorem behind_parts {L r p q:List S64} {i:Int} (hp:r.Perm L) (hr:r=p++q) (h1 : ∀ c∈p,c.f0≤i) (h2 : ∀ c∈q,i<c.f0):sumC q=sumC (behindC L i)∧q.length=(behindC L i).length:=by
  have e:behindC r i=q:=by
    unfold behindC
    rw [hr,List.filter_append,List.filter_eq_nil_iff.mpr (fun c hc=>by have:=h1 c hc;simp only [decide_eq_true_eq];omega),List.nil_append,List.filter_eq_self.mpr (fun c hc=>by simpa using h2 c hc)]
  have hq:q.Perm (behindC L i):=by rw [← e];exact hp.filter _
  exact ⟨sumC_perm hq,hq.length_eq⟩
theorem rise_tail {r p q:List S64} {c:S64} {i:Int} (h:Rise r) (hr:r=p++c::q) (hc:i<c.f0) : ∀ x∈c::q,i<x.f0:=by
  rw [hr] at h
  have h1:=(List.pairwise_append.mp h).2.1
  intro x hx
  rcases List.mem_cons.mp hx with rfl|hx
  · exact hc
  · have:=(List.pairwise_cons.mp h1).1 x hx
    omega
def bitsTo (even:Bool) (L:List S64) (n i:Nat):List Bool:=(List.range n).map fun (j:Nat)=>if j<i then bitI even L (j:Int) else false
theorem bitsTo_len (even:Bool) (L:List S64) (n i:Nat):(bitsTo even L n i).length=n:=by simp [bitsTo]
theorem bitsTo_zero (even:Bool) (L:List S64) (n:Nat):bitsTo even L n 0=List.replicate n false:=by
  unfold bitsTo
  apply List.ext_getElem
  · simp
  · intro j h1 h2;simp
theorem bitsTo_step (even:Bool) (L:List S64) (n i:Nat):(bitsTo even L n i).set i (bitI even L (i:Int))=bitsTo even L n (i+1):=by
  unfold bitsTo
  apply List.ext_getElem
  · simp
  · intro j h1 h2
    simp only [List.getElem_set,List.getElem_map,List.getElem_range]
    by_cases e:i=j
    · subst e;simp
    · rw [if_neg e]
      by_cases h:j<i
      · rw [if_pos h,if_pos (by omega)]
      · rw [if_neg h,if_neg (by omega)]
theorem bitsTo_all (even:Bool) (L:List S64) (n:Nat):bitsTo even L n n=(List.range n).map fun (j:Nat)=>bitI even L (j:Int):=by
  unfold bitsTo
  refine List.map_congr_left (fun j hj=>?_)
  rw [if_pos (List.mem_range.mp hj)]
def midV (j:Int):Int:=wrap64 ((wrap64 (j*65536))+32768)
def scan_Inside.f (k:Nat) (l0:List (List S31)) (a1:Bool) (a2 a3:Int):Option (List S36):=if okAll l0=true∧1≤a2∧a2≤256 then scan_spans.f k ((List.range a2.toNat).map fun (j:Nat)=>bitI a1 (crA l0 (midV a3) l0.length) (j:Int)) else none
theorem scan_Inside.mono : ∀ a0 a1 a2 a3 k,LeO (scan_Inside.f k a0 a1 a2 a3) (scan_Inside.f (k+1) a0 a1 a2 a3):=by
  intro a0 a1 a2 a3 k
  unfold scan_Inside.f
  exact LeO.ite (scan_spans.mono _ _) (LeO.refl _)
set_option maxHeartbeats 8000000 in
theorem scan_Inside.calls (k : Nat) (A0 : Option Addr) (c0 : Nat) (l0 : List (List S31)) (a1 : Bool) (a2 a3 : Int) (r0 : List S36) (w : World) (hr0 : Kd.C (Kd.slice 31 k31) w A0 l0.length l0) (hc0 : l0.length ≤ c0) (h : scan_Inside.f k l0 a1 a2 a3 = some r0) :
    Calls Try.prog 21 #[.slice A0 l0.length c0,.bool a1,.int .i64 a2,.int .i64 a3] w fun e w'=>∃ v0_:Value,e = .returned (v0_)∧Kd.R k36 36 w' w.heap.size (fun _=>True) v0_ r0∧Below w.heap.size w w':=by
  have hu:=Try.underlying31
  have hu3:=Try.underlying64
  have hu5:=Try.underlying60
  unfold scan_Inside.f at h
  by_cases hg:okAll l0=true∧1≤a2∧a2≤256
  case neg=>rw [if_neg hg] at h;cases h
  rw [if_pos hg] at h
  obtain ⟨n,rfl⟩ : ∃ n:Nat,a2=n:=⟨a2.toNat,by omega⟩
  have HR:=aK hr0
  have HG:=aK hg.1
  have HN1:=aK (show 1≤n∧n≤256 by omega)
  have HMID:=aK (fun V=>scan_middle.calls a3 (midV a3) V rfl)
  rw [Int.toNat_natCast,← bitsTo_all] at h
  have HSP:=aK h
  have HLL:=aK (show l0.length≤50 by have:=hg.1;unfold okAll at this;simp only [Bool.and_eq_true,decide_eq_true_eq] at this;exact this.2)
  obtain ⟨y,hy⟩ : ∃ y,midV a3=y:=⟨_,rfl⟩
  rw [hy] at HMID HSP
  clear h hg hr0 hc0 hy
  go_enter Try.func21,Try.ntmps21
  go_wp2_with fail
  refine (HMID.out _).mono ?_
  rintro e W1 ⟨rfl,⟨n1,rfl⟩⟩
  have B0:=aK (blk_alloc (blk_drewN (blk_new w (.cells #[.slice none 0 0] 61)) n1) (.cells #[.int .i64 y] 3))
  have BY:=aK (show (((w.alloc (.cells #[.slice none 0 0] 61)).drewN n1).alloc (.cells #[.int .i64 y] 3)).heap[w.heap.size+1]?=some (.cells #[.int .i64 y] 3 (0,0)) from by
    have h:=blk_new ((w.alloc (.cells #[.slice none 0 0] 61)).drewN n1) (.cells #[.int .i64 y] 3)
    rw [show ((w.alloc (.cells #[.slice none 0 0] 61)).drewN n1).heap.size=w.heap.size+1 by simp] at h
    exact h)
  have HB:=aK (below_alloc (pw_below_drewN (below_alloc (Below.refl w.heap.size w) (.cells #[.slice none 0 0] 61)) n1) (.cells #[.int .i64 y] 3))
  clear HMID
  go_wp2
  go_loopg [23] l0.length (fun gg s23 wr=>∃ kk:Nat,kk≤l0.length∧l0.length≤gg+kk∧s23 = .int .i64 kk∧Aside0 (CrsAt w y (w.heap.size+1) w.heap.size (crA l0 y kk) wr))
  case atStart=>exact ⟨0,by omega,by omega,rfl,⟨HB.out,BY.out,_,B0.out,Kd.R_nil _ _ _ _ _⟩⟩
  case round =>
    clear B0 BY HB
    obtain ⟨kk,hkk,hgg,rfl,HI⟩:=hrel
    by_cases hlt:kk<l0.length
    · have hlti:(kk:Int)<(l0.length:Int):=by omega
      have hltd:decide ((kk:Int)<(l0.length:Int))=true:=decide_eq_true hlti
      have q0:(0:Int)≤(kk:Int):=by omega
      obtain ⟨ad,A1,c1,e1,hx,hl1,hi1⟩:=at_L2 HR.out (kk:Int) q0 hlti
      cases e1
      replace hx:=(HI.out.1.cell (World.block_lt_of_cell? w _ hx)).trans hx
      simp only [Int.toNat_natCast] at hx
      have HI1:=aK hi1
      have HOK:=aK (okAll_at HG.out kk hlt)
      have HCL:=aK (crA_len HG.out y kk (Nat.le_of_lt hlt))
      have HST:=aK (show crA l0 y (kk+1)=crP (crA l0 y kk) (rd_L2 l0 (kk:Int)) y (rd_L2 l0 (kk:Int)).length from rfl)
      have HW:=aK (show wrap64 ((kk:Int)+1)=((kk+1:Nat):Int) by have:=HLL.out;unfold wrap64;omega)
      generalize rd_L2 l0 (kk:Int)=p at *
      have HN:=aK (show kk<l0.length∧l0.length≤gk+kk from ⟨hlt,hgg⟩)
      clear hi1 hl1 hgg hkk hlt
      go_wp2_with fail
      refine (Edges_calls 34 #[.pointer (some ⟨w.heap.size + 1, 0, none⟩), .pointer (some ⟨w.heap.size, 0, none⟩)] (fun i W => CrsAt w y (w.heap.size + 1) w.heap.size (crP (crA l0 y kk) p y i) W) (enters_own Try.func34 (by kernel_rfl) rfl) A1 c1 p w _
        (fun i W hi ⟨k0,k1,v,k2,k3⟩=>inside1_calls (rd_T31 p (i:Int)) (nxt p i) (HOK.out.2 _ (rd_mem p i hi)) (HOK.out.2 _ (nxt_mem p i hi)) y (crP (crA l0 y kk) p y i) v _ _ w W k0 (by omega) (Nat.le_refl _) k1 k2 k3 (by have:=crP_len (crA l0 y kk) p y i;have:=HCL.out;have:=HOK.out.1;have:=HLL.out;have:=HN.out.1;omega))
        (fun i W h=>h.1) (fun i W o ⟨k0,k1,v,k2,k3⟩=>⟨below_alloc k0 o,blk_alloc k1 o,v,blk_alloc k2 o,Kd.R_alloc k3 o⟩) (fun i W m ⟨k0,k1,v,k2,k3⟩=>⟨pw_below_drewN k0 m,blk_drewN k1 m,v,blk_drewN k2 m,Kd.R_drewN k3 m⟩)
        HI.out HI1.out (by have:=HOK.out.1;omega)).mono ?_
      rintro e W6 ⟨rfl,HI6⟩
      have HI7:=aK (show CrsAt w y (w.heap.size+1) w.heap.size (crA l0 y (kk+1)) W6 by rw [HST.out];exact HI6)
      clear HI6 HI HST HOK HCL HI1
      go_wp2
      go_roundg (l0.length-(kk+1))
      case measure=>have:=HN.out;omega
      case rel=>exact ⟨kk+1,by have:=HN.out;omega,by omega,by first|rfl|exact congrArg (Value.int .i64) HW.out,HI7⟩
    · have hltd:decide ((kk:Int)<(l0.length:Int))=false:=decide_eq_false (by omega)
      obtain rfl:kk=l0.length:=by omega
      clear hkk hgg hlt
      have HWY:=aK (crA_ways l0 y l0.length)
      have HCL:=aK (crA_len HG.out y l0.length (Nat.le_refl _))
      generalize crA l0 y l0.length=L at *
      obtain ⟨k0,k1,v,k2,k3⟩:=HI.out
      have K0:=aK k0
      have K2:=aK k2
      have K3:=aK k3
      have c6:=blk_cell k2 0
      simp at c6
      clear HI k0 k1 k2 k3
      go_wp2_with fail
      refine (scan_crossing_37.calls _ v L w _ K0.out K3.out (by have:=HCL.out;have:=HLL.out;omega)).mono ?_
      rintro e W7 ⟨rfl,r,hperm,hrise,s1,s2,s3⟩
      have HP:=aK hperm
      have HRI:=aK hrise
      have HRL:=aK (show r.length≤3000000 by have:=hperm.length_eq;have:=HCL.out;have:=HLL.out;omega)
      have HRW:=aK (show Ways r from fun c hc=>HWY.out c (hperm.mem_iff.mp hc))
      have S2:=aK s2
      obtain ⟨A9,c9,rfl⟩:=Kd.R_slice s1
      have k7:=blk_kept K2.out s3 (by simp)
      have K7:=aK k7
      have c7:=(blk_cell k7 0).trans rfl
      have HLW:=aK (show w.heap.size<W7.heap.size from blk_lt k7)
      have HF:=aK (Kd.F_mono (Kd.R_F s1) (ok':=fun k=>k≠w.heap.size) (fun k hk=>hk.elim (fun h=>h.1) (fun h e=>by have:=blk_lt K2.out;omega)))
      have HC9:=aK (Kd.R_reads' s1).2.1
      clear hperm hrise s1 s2 s3 c6 HCL HWY K0 K2 K3 k7
      go_wp2
      go_quiet (fail)
      go_wp2
      go_loopg [13,37] r.length (fun gg s13 s37 wr=>∃ kk:Nat,kk≤r.length∧r.length≤gg+kk∧s37 = .int .i64 kk∧s13 = .int .i64 (sumC (r.take kk))∧Aside0 (Below w.heap.size w wr)∧Aside0 (w.heap.size<wr.heap.size)∧Aside0 (wr.heap[w.heap.size]?=some (.cells #[.slice A9 r.length c9] 61 (0,0)))∧Aside0 (Kd.F k64 wr (fun k=>k≠w.heap.size) A9 r.length r))
      case atStart=>exact ⟨0,by omega,by omega,rfl,by simp [sumC],⟨pw_below_drewN S2.out _⟩,HLW,⟨blk_drewN K7.out _⟩,⟨Kd.F_drewN HF.out _⟩⟩
      case round =>
        clear S2 HLW K7 HF c7
        obtain ⟨kk,hkk,hgg,rfl,rfl,HB,HLW,K7,HF⟩:=hrel
        by_cases hlt:kk<r.length
        · have hlti:(kk:Int)<(r.length:Int):=by omega
          have hltd:decide ((kk:Int)<(r.length:Int))=true:=decide_eq_true hlti
          have q0:(0:Int)≤(kk:Int):=by omega
          obtain ⟨ad,rfl,hx0,hx1⟩:=at_T64 (Kd.F_now HF.out) (kk:Int) q0 hlti
          simp only [Int.toNat_natCast] at hx0 hx1
          have HST:=aK (sumC_take r kk hlt)
          have HA:=sumC_abs (show Ways (r.take kk) from fun c hc=>HRW.out c (List.mem_of_mem_take hc))
          have HA':=sumC_abs (show Ways (r.take (kk+1)) from fun c hc=>HRW.out c (List.mem_of_mem_take hc))
          have HWS:=aK (show wrap64 (sumC (r.take kk)+(rd_T64 r (kk:Int)).f1)=sumC (r.take (kk+1)) from by
            rw [← HST.out]
            simp only [List.length_take] at HA'
            have:=HRL.out
            exact wrap64_idC (by omega) (by omega))
          generalize rd_T64 r (kk:Int)=x at *
          generalize sumC (r.take kk)=t0 at *
          obtain ⟨t1,ht1⟩ : ∃ t1,sumC (r.take (kk+1))=t1:=⟨_,rfl⟩
          rw [ht1] at HWS
          have HT1:=aK ht1
          clear ht1
          have HW:=aK (show wrap64 ((kk:Int)+1)=((kk+1:Nat):Int) by have:=HRL.out;unfold wrap64;omega)
          have HN:=aK (show kk<r.length∧r.length≤gk+kk from ⟨hlt,hgg⟩)
          have HX:=aK (blk_alloc K7.out (.cells #[.int .i64 x.f0,.int .i64 x.f1] 64))
          have HBX:=aK (below_alloc HB.out (.cells #[.int .i64 x.f0,.int .i64 x.f1] 64))
          have HFX:=aK (Kd.F_alloc HF.out (.cells #[.int .i64 x.f0,.int .i64 x.f1] 64))
          clear HA HA' hgg hkk hlt HB K7 HF HST
          go_wp2
          go_roundg (r.length-(kk+1))
          case measure=>have:=HN.out;omega
          case rel=>exact ⟨kk+1,by have:=HN.out;omega,by omega,by first|rfl|exact congrArg (Value.int .i64) HW.out,by first|rfl|exact congrArg (Value.int .i64) (HWS.out.trans HT1.out.symm),HBX,⟨by have:=HLW.out;simp;omega⟩,HX,HFX⟩
        · have hltd:decide ((kk:Int)<(r.length:Int))=false:=decide_eq_false (by omega)
          obtain rfl:kk=r.length:=by omega
          clear hkk hgg hlt
          rw [List.take_length]
          have HSA:=aK (sumC_abs HRW.out)
          go_wp2_with ((with_reducible refine gate_dst (N:=47) rfl ?_);refine Kd.R_make Kd.bool (w0:=w) w.heap.size 4 rfl (N:=47) rfl 60 _ _ rfl (n:Int) rfl rfl Try.underlying60 (.bool false) 1 info4 rfl (by decide) (by omega) false (ok:=fun k=>k≠w.heap.size) (okp:=fun _=>False) rfl (fun _ h=>h.elim) (Nat.ne_of_gt HLW.out) (Int.natCast_nonneg n) (by have:=HN1.out;simp;omega) HB.out (Nat.le_of_lt HLW.out) ?_;intro v2 W8 hs hb8 hg8 hnew)
          rw [Int.toNat_natCast,← bitsTo_zero a1 L n] at hs
          obtain ⟨g,cap,hv2,hbase,hlt8,cells,hgc⟩:=Kd.R_form hs (by rw [bitsTo_len];exact HN1.out.1)
          rw [bitsTo_len] at hv2
          subst hv2
          obtain ⟨b,hbb,hle⟩:=hnew
          obtain rfl:g=b:=by simpa [Value.ownBlock] using hbb
          have HS8:=aK hs
          have HB8:=aK hb8
          have K8:=aK (blk_grown K7.out hg8 (by simp))
          have HGG:=aK (show w.heap.size<g from Nat.lt_of_lt_of_le HLW.out hle)
          have HF8:=aK (Kd.F_mono (Kd.F_grown (Kd.F_bound HF.out) hg8 (fun k hk=>by simp)) (ok':=fun k=>k≠w.heap.size∧k≠g) (fun k hk=>⟨hk.1,fun e=>by have:=hk.2;omega⟩))
          have HCL:=aK (show n≤cap from (Kd.R_reads' hs).2.1)
          clear hs hb8 hg8 hbase hlt8 hgc hbb hle HB HLW K7 HF
          go_simp
          go_wp2
          go_loopg [13,14,50] n (fun gg s13 s14 s50 wr=>∃ (i:Nat) (p q:List S64) (A':Option Addr) (c':Nat),r=p++q∧i≤n∧n≤gg+i∧s50 = .int .i64 i∧s13 = .int .i64 (sumC q)∧s14 = .int .i64 (q.length:Int)∧(∀ c∈p,c.f0<(i:Int))∧q.length≤c'∧Aside0 (Below w.heap.size w wr)∧Aside0 (wr.heap[w.heap.size]?=some (.cells #[.slice A' q.length c'] 61 (0,0)))∧Aside0 (Kd.F k64 wr (fun k=>k≠w.heap.size∧k≠g) A' q.length q)∧Aside0 (Kd.R Kd.bool 4 wr w.heap.size (fun k=>k≠w.heap.size) (.slice (some ⟨g,0,none⟩) n cap) (bitsTo a1 L n i)))
          case atStart=>exact ⟨0,[],r,A9,c9,rfl,by omega,by omega,rfl,rfl,rfl,(fun c hc=>by cases hc),HC9.out,HB8,K8,HF8,HS8⟩
          case round =>
            clear HB8 K8 HF8 HS8
            obtain ⟨i,p,q,A1,c1,hr,hin,hgg,rfl,rfl,rfl,hpi,hqc,HB,HK,HF,HS⟩:=hrel
            by_cases hlt:i<n
            · have hlti:(i:Int)<(n:Int):=by omega
              have hltd:decide ((i:Int)<(n:Int))=true:=decide_eq_true hlti
              have q0:(0:Int)≤(i:Int):=by omega
              have HW:=aK (show wrap64 ((i:Int)+1)=((i+1:Nat):Int) by have:=HN1.out;unfold wrap64;omega)
              have HN:=aK (show i<n∧n≤gk+i from ⟨hlt,hgg⟩)
              have HR0:=aK hr
              have HPI:=aK (show ∀ c∈p,c.f0≤(i:Int) from fun c hc=>by have:=hpi c hc;omega)
              have HQC:=aK hqc
              obtain ⟨wo,hwo⟩ : ∃ wo:World,wo=wr:=⟨_,rfl⟩
              subst hwo
              clear hr hpi hqc hgg hin hlt
              go_wp2
              go_loopg [13,14] r.length (fun gg s13 s14 wr=>∃ (p q:List S64) (A':Option Addr) (c':Nat),s13 = .int .i64 (sumC q)∧s14 = .int .i64 (q.length:Int)∧q.length≤gg∧Aside0 (r=p++q)∧Aside0 (∀ c∈p,c.f0≤(i:Int))∧Aside0 (q.length≤c')∧Aside0 (Below w.heap.size w wr)∧Aside0 (wr.heap[w.heap.size]?=some (.cells #[.slice A' q.length c'] 61 (0,0)))∧Aside0 (Kd.F k64 wr (fun k=>k≠w.heap.size∧k≠g) A' q.length q)∧Aside0 (Kd.R Kd.bool 4 wr w.heap.size (fun k=>k≠w.heap.size) (.slice (some ⟨g,0,none⟩) n cap) (bitsTo a1 L n i)))
              case atStart=>exact ⟨p,q,A1,c1,rfl,rfl,by rw [HR0.out,List.length_append];omega,HR0,HPI,HQC,HB,HK,HF,HS⟩
              case round =>
                clear HR0 HPI HQC HB HK HF HS
                obtain ⟨p,q,A1,c1,rfl,rfl,hqg,HR0,HPI,HQC,HB,HK,HF,HS⟩:=hrel
                have c7:=(blk_cell HK.out 0).trans rfl
                cases q with
                | nil =>
                  have HSUM:=aK (behind_parts HP.out HR0.out HPI.out (fun c hc=>by cases hc))
                  simp only [sumC,List.length_nil] at HSUM c7 ⊢
                  have HK0:=aK (show wr.heap[w.heap.size]?=some (.cells #[.slice A1 0 c1] 61 (0,0)) from HK.out)
                  rcases Bool.eq_false_or_eq_true a1 with rfl|rfl
                  · obtain ⟨hx8,hf8⟩:=Kd.R_celln false HS.out (i:Int) q0 hlti
                    have P1:=Kd.R_putg HS.out (i:Int) false
                    simp only [Int.toNat_natCast] at hx8 hf8 P1
                    have HBIT:=aK (show bitI true L (i:Int)=false from by unfold bitI;simp only [if_true,Bool.false_eq_true,if_false];rw [← HSUM.out.2];rfl)
                    obtain ⟨hx9,hf9⟩:=Kd.R_celln false P1.1 (i:Int) q0 hlti
                    have P2:=Kd.R_putg P1.1 (i:Int) false
                    simp only [Int.toNat_natCast,List.set_set] at hx9 hf9 P2
                    have HSN:=aK P2.1
                    have HKN:=aK (blk_grown (blk_grown HK.out P1.2 (fun e=>by injection e with e;have:=HGG.out;omega)) P2.2 (fun e=>by injection e with e;have:=HGG.out;omega))
                    have HFN:=aK (Kd.F_grown (Kd.F_grown HF.out P1.2 (fun k hk e=>hk.2 (Option.some.inj e))) P2.2 (fun k hk e=>hk.2 (Option.some.inj e)))
                    clear P1 P2
                    go_wp2
                    go_roundg (n-(i+1))
                    case measure=>have:=HN.out;omega
                    case rel=>exact ⟨i+1,p,([]:List S64),A1,c1,HR0.out,by have:=HN.out;omega,by omega,by first|rfl|exact congrArg (Value.int .i64) HW.out,rfl,rfl,(fun x hx=>by have:=HPI.out x hx;omega),HQC.out,⟨below_set (below_set HB.out (Nat.le_of_lt HGG.out)) (Nat.le_of_lt HGG.out)⟩,HKN,HFN,⟨by rw [← bitsTo_step,HBIT.out];exact HSN.out⟩⟩
                  · obtain ⟨hx8,hf8⟩:=Kd.R_celln false HS.out (i:Int) q0 hlti
                    have P1:=Kd.R_putg HS.out (i:Int) false
                    simp only [Int.toNat_natCast] at hx8 hf8 P1
                    have HBIT:=aK (show bitI false L (i:Int)=false from by unfold bitI;simp only [if_true,Bool.false_eq_true,if_false];rw [← HSUM.out.1];rfl)
                    have HSN:=aK P1.1
                    have HKN:=aK (blk_grown HK.out P1.2 (fun e=>by injection e with e;have:=HGG.out;omega))
                    have HFN:=aK (Kd.F_grown HF.out P1.2 (fun k hk e=>hk.2 (Option.some.inj e)))
                    clear P1
                    go_wp2
                    go_roundg (n-(i+1))
                    case measure=>have:=HN.out;omega
                    case rel=>exact ⟨i+1,p,([]:List S64),A1,c1,HR0.out,by have:=HN.out;omega,by omega,by first|rfl|exact congrArg (Value.int .i64) HW.out,rfl,rfl,(fun x hx=>by have:=HPI.out x hx;omega),HQC.out,⟨below_set HB.out (Nat.le_of_lt HGG.out)⟩,HKN,HFN,⟨by rw [← bitsTo_step,HBIT.out];exact HSN.out⟩⟩
                | cons c q =>
                  obtain ⟨ad,rfl,hx0,hx1⟩:=at_T64 (Kd.F_now HF.out) 0 (by omega) (by simp only [List.length_cons];omega)
                  have e0:rd_T64 (c::q) 0=c:=rfl
                  rw [e0] at hx0 hx1
                  replace hx0:wr.cell? ad=some (.int .i64 c.f0):=hx0
                  replace hx1:wr.cell? ⟨ad.block,ad.off+1,none⟩=some (.int .i64 c.f1):=hx1
                  by_cases hc:c.f0≤(i:Int)
                  · have hcd:decide (c.f0≤(i:Int))=true:=decide_eq_true hc
                    have f7:=blk_frozen HK.out 0
                    have hq1:=HQC.out
                    simp only [List.length_cons] at c7 hqg hq1 ⊢
                    have HSM:=aK (show wrap64 (sumC (c::q)-c.f1)=sumC q from by
                      have h1:=sumC_abs (show Ways q from fun x hx=>HRW.out x (by rw [HR0.out];exact List.mem_append_right _ (List.mem_cons_of_mem _ hx)))
                      have h2:q.length≤r.length:=by rw [HR0.out];simp only [List.length_append,List.length_cons];omega
                      have:=HRL.out
                      rw [show sumC (c::q)-c.f1=sumC q by simp only [sumC];omega]
                      exact wrap64_idC (by omega) (by omega))
                    obtain ⟨sv,hsv⟩ : ∃ sv,sumC (c::q)=sv:=⟨_,rfl⟩
                    rw [hsv] at HSM ⊢
                    have HPN:=aK (show ∀ x∈p++[c],x.f0≤(i:Int) from fun x hx=>by
                      rcases List.mem_append.mp hx with hx|hx
                      · exact HPI.out x hx
                      · obtain rfl:=List.mem_singleton.mp hx
                        exact hc)
                    have HRN:=aK (show r=(p++[c])++q by rw [HR0.out];simp)
                    have HQL := Aside0.mk (show q.length + 1 ≤ gk ∧ q.length ≤ 3000000 from ⟨hqg, by have := HRL.out; have : r.length = p.length + (q.length + 1) := by rw [HR0.out]; simp
                                                                                                     omega⟩)
                    have hcut:=Kd.F_cut HF.out (m:=1) (by simp only [List.length_cons];omega) HQC.out
                    simp only [List.drop_one,List.tail_cons] at hcut
                    have HCUT:=aK hcut
                    clear hsv hcut hc hqg
                    by_cases h1:c1=1
                    · subst h1
                      have hq0:q.length=0:=by omega
                      obtain rfl:=List.length_eq_zero_iff.mp hq0
                      clear hq1 hq0
                      rw [if_pos rfl] at HCUT
                      have hlw:=blk_lt HK.out
                      go_wp2
                      go_roundg 0
                      case measure=>have:=HQL.out;omega
                      case rel=>exact ⟨p++[c],[],some ad,0,congrArg (Value.int .i64) HSM.out,rfl,Nat.le_refl _,HRN,HPN,⟨Nat.le_refl _⟩,⟨below_set HB.out (Nat.le_refl _)⟩,⟨blk_set HK.out 0 _⟩,⟨Kd.F_far HCUT.out (fun k hk=>hk.1) _⟩,⟨Kd.R_far HS.out (fun k hk=>hk) _⟩⟩
                    · rw [if_neg h1] at HCUT
                      have HC1:=aK (show q.length≤c1-1 by omega)
                      have HWL:=aK (show wrap64 (q.length:Int)=(q.length:Int) by have:=HQL.out.2;exact wrap64_idC (by omega) (by omega))
                      have HAD:=aK (show (some ad:Option Addr).map (·.add (1*k64.sz))=some ⟨ad.block,ad.off+2,none⟩ by show some (ad.add (1*2))=_;unfold Addr.add;simp)
                      go_wp2
                      go_roundg q.length
                      case measure=>have:=HQL.out.1;omega
                      case rel=>exact ⟨p++[c],q,some ⟨ad.block,ad.off+2,none⟩,c1-1,congrArg (Value.int .i64) HSM.out,congrArg (Value.int .i64) HWL.out,Nat.le_refl _,HRN,HPN,HC1,⟨below_set HB.out (Nat.le_refl _)⟩,⟨blk_set HK.out 0 _⟩,⟨Kd.F_far (by rw [HAD.out] at HCUT;exact HCUT.out) (fun k hk=>hk.1) _⟩,⟨Kd.R_far HS.out (fun k hk=>hk) _⟩⟩
                  · have hcd:decide (c.f0≤(i:Int))=false:=decide_eq_false hc
                    have HSUM:=aK (behind_parts HP.out HR0.out HPI.out (rise_tail HRI.out HR0.out (by omega)))
                    obtain ⟨sv,hsv⟩ : ∃ sv,sumC (c::q)=sv:=⟨_,rfl⟩
                    obtain ⟨m,hm⟩ : ∃ m,q.length=m:=⟨_,rfl⟩
                    rw [hsv] at HSUM ⊢
                    simp only [List.length_cons] at c7 hqg HSUM ⊢
                    rw [hm] at c7 HSUM ⊢
                    have HSV:=aK hsv
                    have HM:=aK hm
                    clear hsv hm hc
                    rcases Bool.eq_false_or_eq_true a1 with rfl|rfl
                    · obtain ⟨hx8,hf8⟩:=Kd.R_celln false HS.out (i:Int) q0 hlti
                      have P1:=Kd.R_putg HS.out (i:Int) (sv != 0)
                      simp only [Int.toNat_natCast] at hx8 hf8 P1
                      have HBIT:=aK (show bitI true L (i:Int)=(((m+1:Nat):Int) % 2 == 1) from by unfold bitI;simp only [if_true,Bool.false_eq_true,if_false];rw [← HSUM.out.2])
                      obtain ⟨hx9,hf9⟩:=Kd.R_celln false P1.1 (i:Int) q0 hlti
                      have P2:=Kd.R_putg P1.1 (i:Int) (((m+1:Nat):Int) % 2 == 1)
                      simp only [Int.toNat_natCast,List.set_set] at hx9 hf9 P2
                      have HSN:=aK P2.1
                      have HKN:=aK (blk_grown (blk_grown HK.out P1.2 (fun e=>by injection e with e;have:=HGG.out;omega)) P2.2 (fun e=>by injection e with e;have:=HGG.out;omega))
                      have HFN:=aK (Kd.F_grown (Kd.F_grown HF.out P1.2 (fun k hk e=>hk.2 (Option.some.inj e))) P2.2 (fun k hk e=>hk.2 (Option.some.inj e)))
                      clear P1 P2
                      go_wp2
                      go_roundg (n-(i+1))
                      case measure=>have:=HN.out;omega
                      case rel=>exact ⟨i+1,p,(c::q),some ad,c1,HR0.out,by have:=HN.out;omega,by omega,by first|rfl|exact congrArg (Value.int .i64) HW.out,by first|rfl|exact congrArg (Value.int .i64) HSV.out.symm,by first|rfl|(rw [List.length_cons,HM.out]),(fun x hx=>by have:=HPI.out x hx;omega),HQC.out,⟨below_set (below_set HB.out (Nat.le_of_lt HGG.out)) (Nat.le_of_lt HGG.out)⟩,HKN,HFN,⟨by rw [← bitsTo_step,HBIT.out];exact HSN.out⟩⟩
                    · obtain ⟨hx8,hf8⟩:=Kd.R_celln false HS.out (i:Int) q0 hlti
                      have P1:=Kd.R_putg HS.out (i:Int) (sv != 0)
                      simp only [Int.toNat_natCast] at hx8 hf8 P1
                      have HBIT:=aK (show bitI false L (i:Int)=(sv != 0) from by unfold bitI;simp only [if_true,Bool.false_eq_true,if_false];rw [← HSUM.out.1])
                      have HSN:=aK P1.1
                      have HKN:=aK (blk_grown HK.out P1.2 (fun e=>by injection e with e;have:=HGG.out;omega))
                      have HFN:=aK (Kd.F_grown HF.out P1.2 (fun k hk e=>hk.2 (Option.some.inj e)))
                      clear P1
                      go_wp2
                      go_roundg (n-(i+1))
                      case measure=>have:=HN.out;omega
                      case rel=>exact ⟨i+1,p,(c::q),some ad,c1,HR0.out,by have:=HN.out;omega,by omega,by first|rfl|exact congrArg (Value.int .i64) HW.out,by first|rfl|exact congrArg (Value.int .i64) HSV.out.symm,by first|rfl|(rw [List.length_cons,HM.out]),(fun x hx=>by have:=HPI.out x hx;omega),HQC.out,⟨below_set HB.out (Nat.le_of_lt HGG.out)⟩,HKN,HFN,⟨by rw [← bitsTo_step,HBIT.out];exact HSN.out⟩⟩
            · have hltd:decide ((i:Int)<(n:Int))=false:=decide_eq_false (by omega)
              obtain rfl:i=n:=by omega
              clear hin hgg hlt hpi hr hqc
              have hC:=(Kd.R_reads' HS.out).2.2
              have hle:=(Kd.R_reads' HS.out).2.1
              have hcall:=fun V (hb:Below wr.heap.size wr V)=>scan_spans.calls k (some ⟨g,0,none⟩) cap (bitsTo a1 L i i) r0 V (Kd.C_below hC hb) (by rw [bitsTo_len];exact hle) HSP.out
              rw [bitsTo_len] at hcall
              have HCALL:=aK hcall
              clear hcall hC hle
              go_wp2_with (go_at_call 31;refine (HCALL.out _ (Below.refl _ _)).mono ?_;rintro e W9 ⟨v0,rfl,hr9,hb9⟩;have HR9:=aK (Kd.R_lower hr9 HB.out.size);have HB9:=aK (below_step HB.out hb9);clear hr9 hb9)
              go_ret
              exact ⟨_,rfl,HR9.out,HB9.out⟩

def scan_Row.f (k:Nat) (l0:List (List (S31))) (a1:Bool) (a2:Int) (a3:Int):Option ((List (S36))×Int):=(wind_ValidAll.f k l0).bind fun t225=>(if t225=true then ((scan_isRow.f a2 a3).bind fun t226=>(if t226=true then ((scan_Inside.f k l0 a1 a2 a3).bind fun t227=>(some (t227,0))) else (some (([]:List (S36)),2)))) else (some (([]:List (S36)),2)))
theorem scan_Row.mono : ∀ a0 a1 a2 a3 k,LeO (scan_Row.f k a0 a1 a2 a3) (scan_Row.f (k+1) a0 a1 a2 a3):=by
  intro a0 a1 a2 a3 k
  unfold scan_Row.f
  repeat' first
      | (with_reducible exact scan_Inside.mono _ _ _ _ _)
      | (with_reducible exact wind_ValidAll.mono _ _)
      | (with_reducible exact LeO.refl _)
      | (with_reducible exact LeO.none _)
      | (with_reducible refine LeO.ite ?_ ?_)
      | (with_reducible refine LeO.bind ?_ (fun _=>?_))
      | exact scan_Inside.mono _ _ _ _ _
      | exact wind_ValidAll.mono _ _
      | exact LeO.none _
      | refine LeO.ite ?_ ?_
      | refine LeO.bind ?_ (fun _=>?_)
set_option maxHeartbeats 8000000 in
theorem scan_Row.calls (k : Nat) (A0 : Option Addr) (c0 : Nat) (l0 : List (List (S31))) (a1 : Bool) (a2 : Int) (a3 : Int) (r1 : List (S36)) (r2 : Int) (w : World) (hr0 : Kd.C (Kd.slice 31 k31) w A0 l0.length l0) (hc0 : l0.length ≤ c0) (h : scan_Row.f k l0 a1 a2 a3 = some (r1, r2)) :
    Calls Try.prog 10 #[.slice A0 l0.length c0,.bool a1,.int .i64 a2,.int .i64 a3] w fun e w'=>∃ v0_:Value,e = .returned (.tuple #[v0_,.int .i64 r2])∧Kd.R k36 36 w' w.heap.size (fun _=>True) v0_ r1∧Below w.heap.size w w':=by
  have HR0:=aK hr0
  have HC0:=aK hc0
  clear hr0 hc0
  have HB:=aK (Below.refl w.heap.size w)
  have H:((wind_ValidAll.f k l0).bind fun t225=>(if t225=true then ((scan_isRow.f a2 a3).bind fun t226=>(if t226=true then ((scan_Inside.f k l0 a1 a2 a3).bind fun t227=>(some (t227,0))) else (some (([]:List (S36)),2)))) else (some (([]:List (S36)),2))))=some (r1,r2):=h
  clear h
  replace H:=Option.bind_eq_some_iff.mp H
  obtain ⟨t225,A50,H⟩:=H
  replace H:(if t225=true then ((scan_isRow.f a2 a3).bind fun t226=>(if t226=true then ((scan_Inside.f k l0 a1 a2 a3).bind fun t227=>(some (t227,0))) else (some (([]:List (S36)),2)))) else (some (([]:List (S36)),2)))=some (r1,r2):=H
  have A5:=aK A50
  clear A50
  by_cases c6:t225=true
  · subst c6
    have H1:((scan_isRow.f a2 a3).bind fun t226=>(if t226=true then ((scan_Inside.f k l0 a1 a2 a3).bind fun t227=>(some (t227,0))) else (some (([]:List (S36)),2))))=some (r1,r2):=by rw [if_pos rfl] at H;exact H
    clear H
    have H:=H1
    clear H1
    replace H:=Option.bind_eq_some_iff.mp H
    obtain ⟨t226,A70,H⟩:=H
    replace H:(if t226=true then ((scan_Inside.f k l0 a1 a2 a3).bind fun t227=>(some (t227,0))) else (some (([]:List (S36)),2)))=some (r1,r2):=H
    have A7:=aK A70
    clear A70
    by_cases c8:t226=true
    · subst c8
      have H1:((scan_Inside.f k l0 a1 a2 a3).bind fun t227=>(some (t227,0)))=some (r1,r2):=by rw [if_pos rfl] at H;exact H
      clear H
      have H:=H1
      clear H1
      replace H:=Option.bind_eq_some_iff.mp H
      obtain ⟨t227,A90,H⟩:=H
      replace H:(some (t227,0))=some (r1,r2):=H
      have A9:=aK A90
      clear A90
      simp only [Option.some.injEq,Prod.mk.injEq] at H
      obtain ⟨rfl,rfl⟩:=H
      go_enter Try.func10,Try.ntmps10
      go_wp2_with (first|((with_reducible refine gate_callee (f:=19) rfl ?_);refine goesL_ (some 11) rfl rfl Try.func19 (by kernel_rfl) rfl #[.slice A0 l0.length c0] rfl (by (try simp only [List.map_toArray,List.map_cons,List.map_nil]);first|done|rfl|(simp only [List.length_drop,List.length_take];rfl)) ?_;(with_reducible refine (wind_ValidAll.calls k _ _ l0 true _ ?side1 ?side2 A5.out).mono ?_);(case side1=>repeat (first|exact HR0.out|(with_reducible refine Kd.C_alloc ?_ _)|(with_reducible refine Kd.C_drewN ?_ _)|(with_reducible refine Kd.C_drew ?_)));(case side2=>exact HC0.out);rintro e w10 ⟨rfl,hb⟩;refine ⟨_,rfl,?_⟩;have n0_:=aK (below_step (by repeat (first|(with_reducible first|exact HB.out|apply below_alloc|apply pw_below_drewN|apply below_drew1)|exact HB.out)) hb);clear HB;have HB:=n0_;clear n0_;(try clear hb);(try clear hb2);(try clear hk);(try clear hi))|(go_at_call 20;(with_reducible refine (scan_isRow.calls a2 a3 true _ A7.out).mono ?_);rintro e w' ⟨rfl,⟨nd,rfl⟩⟩)|((with_reducible refine gate_callee (f:=21) rfl ?_);refine goesL_ (some 23) rfl rfl Try.func21 (by kernel_rfl) rfl #[.slice A0 l0.length c0,.bool a1,.int .i64 a2,.int .i64 a3] rfl (by (try simp only [List.map_toArray,List.map_cons,List.map_nil]);first|done|rfl|(simp only [List.length_drop,List.length_take];rfl)) ?_;(with_reducible refine (scan_Inside.calls k _ _ l0 a1 a2 a3 t227 _ ?side1 ?side2 A9.out).mono ?_);(case side1=>repeat (first|exact (Kd.C_below HR0.out (by repeat (first|(with_reducible first|exact HB.out|apply below_alloc|apply pw_below_drewN|apply below_drew1)|exact HB.out)))|(with_reducible refine Kd.C_alloc ?_ _)|(with_reducible refine Kd.C_drewN ?_ _)|(with_reducible refine Kd.C_drew ?_)));(case side2=>exact HC0.out);rintro e w11 ⟨v228,rfl,ho0,hb⟩;refine ⟨_,rfl,?_⟩;have n0_:=aK (Kd.R_lower ho0 (below_size (by repeat (first|(with_reducible first|exact HB.out|apply below_alloc|apply pw_below_drewN|apply below_drew1)|exact HB.out))));have n1_:=aK (below_step (by repeat (first|(with_reducible first|exact HB.out|apply below_alloc|apply pw_below_drewN|apply below_drew1)|exact HB.out)) hb);clear HB;have HO229:=n0_;have HB:=n1_;clear n0_ n1_;(try clear hb);(try clear hb2);(try clear hk);(try clear hi);(try clear ho0)))
      go_ret2
      exact ⟨_,by first|rfl|(simp [errW_none,errW_some] <;> rfl)|(simp [*,errW_none,errW_some] <;> rfl),by (with_reducible repeat (first|apply Kd.R_alloc|apply Kd.R_drewN|apply Kd.R_drew));exact HO229.out,by repeat (first|(with_reducible first|exact HB.out|apply below_alloc|apply pw_below_drewN|apply below_drew1)|exact HB.out)⟩
    · replace c8:=Bool.eq_false_iff.mpr c8
      subst c8
      have H1:(some (([]:List (S36)),2))=some (r1,r2):=by rw [if_neg (show ¬ (false=true) by decide)] at H;exact H
      clear H
      have H:=H1
      clear H1
      simp only [Option.some.injEq,Prod.mk.injEq] at H
      obtain ⟨rfl,rfl⟩:=H
      go_enter Try.func10,Try.ntmps10
      go_wp2_with (first|((with_reducible refine gate_callee (f:=19) rfl ?_);refine goesL_ (some 11) rfl rfl Try.func19 (by kernel_rfl) rfl #[.slice A0 l0.length c0] rfl (by (try simp only [List.map_toArray,List.map_cons,List.map_nil]);first|done|rfl|(simp only [List.length_drop,List.length_take];rfl)) ?_;(with_reducible refine (wind_ValidAll.calls k _ _ l0 true _ ?side1 ?side2 A5.out).mono ?_);(case side1=>repeat (first|exact HR0.out|(with_reducible refine Kd.C_alloc ?_ _)|(with_reducible refine Kd.C_drewN ?_ _)|(with_reducible refine Kd.C_drew ?_)));(case side2=>exact HC0.out);rintro e w12 ⟨rfl,hb⟩;refine ⟨_,rfl,?_⟩;have n0_:=aK (below_step (by repeat (first|(with_reducible first|exact HB.out|apply below_alloc|apply pw_below_drewN|apply below_drew1)|exact HB.out)) hb);clear HB;have HB:=n0_;clear n0_;(try clear hb);(try clear hb2);(try clear hk);(try clear hi))|(go_at_call 20;(with_reducible refine (scan_isRow.calls a2 a3 false _ A7.out).mono ?_);rintro e w' ⟨rfl,⟨nd,rfl⟩⟩))
      go_ret2
      exact ⟨_,by first|rfl|(simp [errW_none,errW_some] <;> rfl)|(simp [*,errW_none,errW_some] <;> rfl),by first|exact Kd.R_nil _ _ _ _ _|exact Kd.N_nil _ _ _ _ _|exact Kd.V_nil _ _ _ _ _|exact Kd.Q_nil _ _ _ _ _|exact Kd.S_nil _ _ _ _ _,by repeat (first|(with_reducible first|exact HB.out|apply below_alloc|apply pw_below_drewN|apply below_drew1)|exact HB.out)⟩
  · replace c6:=Bool.eq_false_iff.mpr c6
    subst c6
    have H1:(some (([]:List (S36)),2))=some (r1,r2):=by rw [if_neg (show ¬ (false=true) by decide)] at H;exact H
    clear H
    have H:=H1
    clear H1
    simp only [Option.some.injEq,Prod.mk.injEq] at H
    obtain ⟨rfl,rfl⟩:=H
    go_enter Try.func10,Try.ntmps10
    go_wp2_with ((with_reducible refine gate_callee (f:=19) rfl ?_);refine goesL_ (some 11) rfl rfl Try.func19 (by kernel_rfl) rfl #[.slice A0 l0.length c0] rfl (by (try simp only [List.map_toArray,List.map_cons,List.map_nil]);first|done|rfl|(simp only [List.length_drop,List.length_take];rfl)) ?_;(with_reducible refine (wind_ValidAll.calls k _ _ l0 false _ ?side1 ?side2 A5.out).mono ?_);(case side1=>repeat (first|exact HR0.out|(with_reducible refine Kd.C_alloc ?_ _)|(with_reducible refine Kd.C_drewN ?_ _)|(with_reducible refine Kd.C_drew ?_)));(case side2=>exact HC0.out);rintro e w13 ⟨rfl,hb⟩;refine ⟨_,rfl,?_⟩;have n0_:=aK (below_step (by repeat (first|(with_reducible first|exact HB.out|apply below_alloc|apply pw_below_drewN|apply below_drew1)|exact HB.out)) hb);clear HB;have HB:=n0_;clear n0_;(try clear hb);(try clear hb2);(try clear hk);(try clear hi))
    go_ret2
    exact ⟨_,by first|rfl|(simp [errW_none,errW_some] <;> rfl)|(simp [*,errW_none,errW_some] <;> rfl),by first|exact Kd.R_nil _ _ _ _ _|exact Kd.N_nil _ _ _ _ _|exact Kd.V_nil _ _ _ _ _|exact Kd.Q_nil _ _ _ _ _|exact Kd.S_nil _ _ _ _ _,by repeat (first|(with_reducible first|exact HB.out|apply below_alloc|apply pw_below_drewN|apply below_drew1)|exact HB.out)⟩

end Go.Proofs.Ytckjlckhjcbddaa.PH3
