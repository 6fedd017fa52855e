import Derived.Test.YtoemkemmiikhlaaGreatPF4x0
import Derived.Test.YtoemkemmiikhlaaGreatPF4x1
import Derived.Test.YtoemkemmiikhlaaGreatPF4x3
import Derived.Test.YtoemkemmiikhlaaGreatPF4x4
set_option maxRecDepth 100000
namespace Go.Proofs.YtoemkemmiikhlaaGreat.PF4
open Go.RowKit Go.Proofs.YtoemkemmiikhlaaGreatW.PrintWords Go.Proofs.YtoemkemmiikhlaaGreatW.PrintLast Go.Proofs.YtoemkemmiikhlaaGreatW.PrintMore
attribute [local go_sem] max2_int min2_int max_two min_two max_three min_three max_four min_four
set_option linter.unusedVariables false
set_option linter.unusedSimpArgs false
def dimF : Nat → S50 → Int
 | 0,c=>c.f1
 | 1,c=>c.f2
 | _,c=>c.f3
def dimG : Nat → Nat
 | 0=>70
 | 1=>71
 | _=>72
theorem dim_enters : ∀ (k : Nat) (args : Array Value) (w : World), (callFunc (dimG k) args).run Tryz.prog w = .ok (.enter (dimG k) args) w
 | 0=>enters_own Tryz.func70 (by kernel_rfl) rfl
 | 1=>enters_own Tryz.func71 (by kernel_rfl) rfl
 | _+2=>enters_own Tryz.func72 (by kernel_rfl) rfl
theorem dim_calls : ∀ (k : Nat) (W : World) (x : S50), Calls Tryz.prog (dimG k) #[.agg #[.int .i64 x.f0, .int .i64 x.f1, .int .i64 x.f2, .int .i64 x.f3]] W fun e w' => e = .returned (.int .i64 (dimF k x)) ∧ Below W.heap.size W w'
 | 0=>fun W x=>metric_width.calls _ _ _ _ _ W rfl
 | 1=>fun W x=>metric_height.calls _ _ _ _ _ W rfl
 | _+2=>fun W x=>metric_depth.calls _ _ _ _ _ W rfl
def dimV:Array Value:=#[.func (.func 70) #[] #[],.func (.func 71) #[] #[],.func (.func 72) #[] #[]]
theorem dimV_at : ∀ k, k < 3 → dimV[k]? = some (.func (.func (dimG k)) #[] #[])
 | 0,_=>rfl
 | 1,_=>rfl
 | 2,_=>rfl
structure PackI (w0 W:World) (bm bf bt bd:Nat) (M:Array Value) (tab:Nat→List Int) (k:Nat) (l:List Int):Prop where
 below:Below w0.heap.size w0 W
 le:w0.heap.size≤bf∧w0.heap.size≤bt
 file:FileAt W w0.heap.size bf l
 box:W.heap[bm]?=some (.cells M 25 (0,0))
 dims:W.heap[bd]?=some (.cells dimV 100 (0,0))
 tabs : ∃ tv:Array Value,W.heap[bt]?=some (.cells tv 73 (0,0))∧tv.size=3∧∀ j,j<3→∃ v,tv[j]?=some v∧Kd.R (Kd.int .i64) 3 W w0.heap.size (fun _=>True) v (if j<k then tab j else [])
section
variable {w0 W W2:World} {bm bf bt bd k:Nat} {M:Array Value} {tab:Nat→List Int} {l l2:List Int}
theorem PackI.ofBelow (h:PackI w0 W bm bf bt bd M tab k l) (hb:Below W.heap.size W W2):PackI w0 W2 bm bf bt bd M tab k l:=by
 obtain ⟨h1,h2,⟨v,h3,h3'⟩,h4,h5,tv,h6,h7,h8⟩:=h
 exact ⟨below_step h1 hb,h2,⟨v,blk_below h3 hb,Kd.R_below h3' hb⟩,blk_below h4 hb,blk_below h5 hb,tv,blk_below h6 hb,h7,fun j hj=>by
  obtain ⟨v,hv,hr⟩:=h8 j hj
  exact ⟨v,hv,Kd.R_below hr hb⟩⟩
theorem PackI.ofFile (h:PackI w0 W bm bf bt bd M tab k l) (hF:FileAt W2 w0.heap.size bf l2) (hB:Below w0.heap.size w0 W2) (hk:KeepF W W2 bf):PackI w0 W2 bm bf bt bd M tab k l2:=by
 obtain ⟨h1,h2,⟨v,h3,h3'⟩,h4,h5,tv,h6,h7,h8⟩:=h
 have n4:bm≠bf:=blk_ne h4 h3 (by decide)
 have n5:bd≠bf:=blk_ne h5 h3 (by decide)
 have n6:bt≠bf:=blk_ne h6 h3 (by decide)
 exact ⟨hB,h2,hF,hk.blk h4 (by decide) n4,hk.blk h5 (by decide) n5,tv,hk.blk h6 (by decide) n6,h7,fun j hj=>by
  obtain ⟨v',hv,hr⟩:=h8 j hj
  exact ⟨v',hv,hk.row hr h3 (by intro q hq;simp [Kd.int,Kd.scalar] at hq;subst hq;decide)⟩⟩
theorem PackI.store {v:Value} (h:PackI w0 W bm bf bt bd M tab k l) (hk:k<3) (hv:Kd.R (Kd.int .i64) 3 W w0.heap.size (fun _=>True) v (tab k)):PackI w0 (W.setCell ⟨bt,k,none⟩ v) bm bf bt bd M tab (k+1) l:=by
 obtain ⟨h1,h2,⟨v3,h3,h3'⟩,h4,h5,tv,h6,h7,h8⟩:=h
 have n3:bf≠bt:=blk_ne h3 h6 (by decide)
 have n4:bm≠bt:=blk_ne h4 h6 (by decide)
 have n5:bd≠bt:=blk_ne h5 h6 (by decide)
 refine ⟨below_set h1 h2.2,h2,⟨v3,blk_far h3 n3 _,Kd.R_set h3' h6 (by intro q hq;simp [Kd.int,Kd.scalar] at hq;subst hq;decide) k v⟩,blk_far h4 n4 _,blk_far h5 n5 _,tv.setIfInBounds k v,blk_set h6 k v,by simpa using h7,fun j hj=>?_⟩
 by_cases e:j=k
 ·subst e
  refine ⟨v,by rw [Array.getElem?_setIfInBounds_self_of_lt (by omega)],?_⟩
  rw [if_pos (by omega)]
  exact Kd.R_set hv h6 (by intro q hq;simp [Kd.int,Kd.scalar] at hq;subst hq;decide) j v
 ·obtain ⟨v',hv',hr⟩:=h8 j hj
  refine ⟨v',by rw [Array.getElem?_setIfInBounds_ne (Ne.symm e)];exact hv',?_⟩
  have he:(if j<k+1 then tab j else [])=(if j<k then tab j else []):=by
   by_cases h9:j<k
   ·rw [if_pos h9,if_pos (by omega)]
   ·rw [if_neg h9,if_neg (by omega)]
  rw [he]
  exact Kd.R_set hr h6 (by intro q hq;simp [Kd.int,Kd.scalar] at hq;subst hq;decide) k v
end
theorem at_I {w:World} {A:Option Addr} {n:Nat} {xs:List Int} (h:Kd.C (Kd.int .i64) w A n xs) (i:Int) (h0:0≤i) (h1:i<n) : ∃ ad,A=some ad∧w.cell? (ad.add i.toNat)=some (.int .i64 (rd xs i)):=by
 obtain ⟨ad,c,e,_,hK,hc0⟩:=Kd.C_get h 0 i h0 h1
 have hc : ∀ j u,c[j]?=some u→w.cell? (ad.add (i.toNat*1+j))=some u:=hc0
 have hK':c=[Value.int .i64 (xs.getD i.toNat 0)]:=hK
 subst hK'
 refine ⟨ad,e,?_⟩
 have:=hc 0 _ rfl
 rw [Nat.mul_one,Nat.add_zero] at this
 exact this
theorem countP_at (l:List Int) (p:Int→Bool) (i:Nat) (hi:i≤l.length) (h1 : ∀ t (h:t<l.length),t<i→p l[t]=true) (h2 : ∀ t (h:t<l.length),i≤t→p l[t]=false):l.countP p=i:=by
 rw [← List.take_append_drop i l,List.countP_append]
 have e1:(l.take i).countP p=(l.take i).length:=by
  rw [List.countP_eq_length]
  intro x hx
  obtain ⟨t,ht,rfl⟩:=List.getElem_of_mem hx
  rw [List.length_take] at ht
  rw [List.getElem_take]
  exact h1 t (by omega) (by omega)
 have e2:(l.drop i).countP p=0:=by
  rw [List.countP_eq_zero]
  intro x hx
  obtain ⟨t,ht,rfl⟩:=List.getElem_of_mem hx
  rw [List.length_drop] at ht
  rw [List.getElem_drop,h2 (i+t) (by omega) (by omega)]
  simp
 rw [e1,e2,List.length_take]
 omega
def idxB (l:List Int) (x:Int):Nat:=l.countP fun y=>decide (y<x)
theorem bs_mid (i j:Nat) (h:i+j≤1000000000000):wrap64 ((IntKind.u64.wrap (wrap64 ((i:Int)+(j:Int)))) / 2)=(((i+j) / 2:Nat):Int):=by
 have e1:wrap64 ((i:Int)+(j:Int))=(i:Int)+(j:Int):=by unfold wrap64;omega
 have e2:IntKind.u64.wrap ((i:Int)+(j:Int))=(i:Int)+(j:Int):=by
  simp only [IntKind.wrap,IntKind.bits,IntKind.signed]
  simp
  omega
 rw [e1,e2]
 unfold wrap64
 omega
theorem bs_less (a b:Int):cmp_Less_int.f a b=some (decide (a<b)):=by
 unfold cmp_Less_int.f cmp_isNaN_int.f
 simp only [bne_self_eq_false,Option.bind_some,Bool.false_eq_true,if_false]
theorem bs_fin (l:List Int) (x:Int) (d i:Nat) (hi:i≤l.length) (h1 : ∀ t (h:t<l.length),t<i→l[t]<x) (h2 : ∀ t (h:t<l.length),i≤t→¬ l[t]<x) : ∃ b,slices_BinarySearch_int_int.l0 (d+1) l x (l.length:Int) (i:Int) (i:Int)=some (((idxB l x:Nat):Int),b):=by
 have hc:idxB l x=i:=countP_at l _ i hi (fun t h ht=>decide_eq_true (h1 t h ht)) (fun t h ht=>decide_eq_false (h2 t h ht))
 rw [hc,slices_BinarySearch_int_int.l0,if_neg (by omega)]
 by_cases h3:(i:Int)<(l.length:Int)
 ·rw [if_pos h3,if_pos (by omega),if_pos h3]
  by_cases h4:rd l (i:Int)=x
  ·rw [if_pos h4];exact ⟨_,rfl⟩
  ·rw [if_neg h4]
   unfold slices_isNaN_int.f
   simp only [bne_self_eq_false,Option.bind_some,Bool.false_eq_true,if_false]
   exact ⟨_,rfl⟩
 ·rw [if_neg h3];exact ⟨_,rfl⟩
theorem srt_at (l:List Int) (hs:l.Pairwise (·≤·)) (a b:Nat) (ha:a<l.length) (hb:b<l.length) (hab:a≤b):l[a]≤l[b]:=by
 rcases Nat.lt_or_ge a b with h|h
 ·exact List.pairwise_iff_getElem.mp hs a b ha hb h
 ·obtain rfl:a=b:=by omega
  exact Int.le_refl _
theorem bs_step (l:List Int) (x:Int) (d i j:Nat) (h:i<j) (hj:j≤l.length) (hl:l.length≤1000000000):slices_BinarySearch_int_int.l0 (d+1) l x (l.length:Int) (i:Int) (j:Int)=if decide (l[(i+j) / 2]'(by omega)<x)=true then slices_BinarySearch_int_int.l0 d l x (l.length:Int) (((i+j) / 2+1:Nat):Int) (j:Int) else slices_BinarySearch_int_int.l0 d l x (l.length:Int) (i:Int) (((i+j) / 2:Nat):Int):=by
 have hml:(i+j) / 2<l.length:=by omega
 have hrd : ∀ m (hm:m<l.length),rd l (m:Int)=l[m]:=fun m hm=>by simp [rd,hm]
 have hw:wrap64 ((((i+j) / 2:Nat):Int)+1)=(((i+j) / 2+1:Nat):Int):=by unfold wrap64;omega
 rw [slices_BinarySearch_int_int.l0,if_pos (by omega),bs_mid i j (by omega),if_pos (by omega),if_pos (by omega),bs_less,hrd _ hml,hw]
 rfl
theorem bs_loop (l : List Int) (x : Int) (hs : l.Pairwise (· ≤ ·)) (hl : l.length ≤ 1000000000) : ∀ (d i j : Nat), j - i ≤ d → i ≤ j → j ≤ l.length → (∀ t (h : t < l.length), t < i → l[t] < x) → (∀ t (h : t < l.length), j ≤ t → ¬ l[t] < x) →
  ∃ b,slices_BinarySearch_int_int.l0 (d+1) l x (l.length:Int) (i:Int) (j:Int)=some (((idxB l x:Nat):Int),b)
 | 0,i,j,h0,hij,hj,h1,h2=>by
  obtain rfl:i=j:=by omega
  exact bs_fin l x 0 i hj h1 h2
 | d+1,i,j,h0,hij,hj,h1,h2=>by
  by_cases hlt:i<j
  ·have hml:(i+j) / 2<l.length:=by omega
   rw [bs_step l x (d+1) i j hlt hj hl]
   by_cases hx:l[(i+j) / 2]<x
   ·rw [if_pos (decide_eq_true hx)]
    exact bs_loop l x hs hl d _ j (by omega) (by omega) hj (fun t h ht=>Int.lt_of_le_of_lt (srt_at l hs t ((i+j) / 2) h hml (by omega)) hx) h2
   ·rw [if_neg (by rw [decide_eq_true_eq];exact hx)]
    exact bs_loop l x hs hl d i _ (by omega) (by omega) (by omega) h1 (fun t h ht hc=>hx (Int.lt_of_le_of_lt (srt_at l hs ((i+j) / 2) t hml h ht) hc))
  ·obtain rfl:i=j:=by omega
   exact bs_fin l x (d+1) i hj h1 h2
theorem bsearch_is (l:List Int) (x:Int) (hs:l.Pairwise (·≤·)) (hl:l.length≤1000000000) : ∃ b,slices_BinarySearch_int_int.f (l.length+1) l x=some (((idxB l x:Nat):Int),b) :=
 bs_loop l x hs hl l.length 0 l.length (by omega) (by omega) (Nat.le_refl _) (fun t h ht=>by omega) (fun t h ht=>by omega)
theorem compact_sublist (l:List Int):(Lib.compact l).Sublist l:=by
 have h:(Lib.compact l).Sublist ((List.range l.toArray.size).map (l.toArray[·]!)):=by
  unfold Lib.compact Lib.compactUpTo
  exact List.Sublist.map _ List.filter_sublist
 rw [Lib.range_map_get] at h
 simpa using h
theorem tabB_sorted (l:List Int):(tabB l).Pairwise (·≤·):=by
 have h:=List.pairwise_mergeSort (le:=fun (x y:Int)=>decide (x≤y)) (fun a b c h1 h2=>by simp only [decide_eq_true_eq] at *;omega) (fun a b=>by simp only [Bool.or_eq_true,decide_eq_true_eq];omega) l
 exact (h.imp (fun h=>by simpa using h)).sublist (compact_sublist _)
theorem tabB_len (l:List Int):(tabB l).length≤l.length:=by
 have:=(compact_sublist (l.mergeSort fun x y=>decide (x≤y))).length_le
 unfold tabB
 simpa using this
def tabJ (cs:List S50) (k:Nat):List Int:=tabB (cs.map (dimF k))
def tabBytes (t:List Int):List Int:=be2 t.length++t.flatMap be4
def magicB:List Int:=[70,77,69,84]
def headB (sz:Int) (cs:List S50) (k:Nat):List Int:=magicB++be4 sz++(List.range k).flatMap fun j=>tabBytes (tabJ cs j)
def dimsB (cs:List S50) (c:S50) (k:Nat):List Int:=(List.range k).flatMap fun j=>be2 (idxB (tabJ cs j) (dimF j c))
def charB (cs:List S50) (c:S50):List Int:=be1 c.f0++dimsB cs c 3
def ruleB (r:S45):List Int:=be1 r.f0++be1 r.f1++be1 r.f2++be4 r.f3
def bodyB (sz:Int) (cs:List S50) (rs:List S45):List Int:=headB sz cs 3++be2 cs.length++cs.flatMap (charB cs)++be2 rs.length++rs.flatMap ruleB
def fileB (sz:Int) (cs:List S50) (rs:List S45):List Int:=bodyB sz cs rs++be4 (sumB (bodyB sz cs rs))
theorem headB_next (sz:Int) (cs:List S50) (k:Nat):headB sz cs (k+1)=headB sz cs k++be2 (tabJ cs k).length++(tabJ cs k).flatMap be4:=by
 unfold headB
 rw [List.range_succ,List.flatMap_append]
 simp [tabBytes,List.append_assoc]
theorem dimsB_next (cs:List S50) (c:S50) (k:Nat):dimsB cs c (k+1)=dimsB cs c k++be2 (idxB (tabJ cs k) (dimF k c)):=by
 unfold dimsB
 rw [List.range_succ,List.flatMap_append]
 simp
theorem flat_next {α:Type} (f:α→List Int) (l:List α) (k:Nat) (h:k<l.length):(l.take (k+1)).flatMap f=(l.take k).flatMap f++f l[k]:=by
 rw [List.take_succ_eq_append_getElem h,List.flatMap_append]
 simp
theorem file_put0 {w0 W w1 : World} {b : Nat} {v0 v1 : Value} {l' : List Int} (hb : W.heap[b]? = some (.cells #[v0] 98 (0, 0))) (ho : w1.ownsRow W.heap.size 5 1 v1 l'.length (nums .u8 l')) (hg : W.grownBy w1 none) (hB : Below w0.heap.size w0 W) (hbb : w0.heap.size ≤ b) :
  FileAt (w1.setCell ⟨b,0,none⟩ v1) w0.heap.size b l'∧Below w0.heap.size w0 (w1.setCell ⟨b,0,none⟩ v1)∧KeepF W (w1.setCell ⟨b,0,none⟩ v1) b:=by
 have hb1:=blk_grown hb hg (by simp)
 have hR:Kd.R (Kd.int .u8) 5 w1 w0.heap.size (fun _=>True) v1 l':=⟨fun _ _=>trivial,nums .u8 l',own_weaken ho hB.size,reps_u8 l'⟩
 refine ⟨⟨v1,blk_put hb1 0 v1 rfl,Kd.R_set hR hb1 (by decide) 0 v1⟩,below_set (hB.grown hg hB.size (fun k hk=>by cases hk)) hbb,?_,fun k hk hkb _=>(Below.heap_setCell w1 ⟨b,0,none⟩ v1 k hkb).trans (hg.block k hk (by simp))⟩
 simpa [World.setCell] using hg.size
set_option maxHeartbeats 4000000 in
theorem fileFour0 (w0 : World) (b g : Nat) (n : Int) (W : World) (hB : Below w0.heap.size w0 W) (hbb : w0.heap.size ≤ b) (hb : W.heap[b]? = some (.cells #[.slice (some ⟨g, 0, none⟩) 4 4] 98 (0, 0)))
  (hm : ∀ j u,(nums .u8 magicB)[j]?=some u→W.cell? ⟨g,0+j,none⟩=some u) :
  Calls Tryz.prog 69 #[.pointer (some ⟨b,0,none⟩),.int .i64 n] W fun e w'=>e = .returned (.tuple #[])∧FileAt w' w0.heap.size b (magicB++be4 n)∧Below w0.heap.size w0 w'∧KeepF W w' b:=by
 have hu:=Tryz.underlying98
 obtain ⟨i0,hi0,hz0,hs0,hb0⟩:=info_parts info5
 have HB:=aK hB
 have HK:=aK hb
 have HS:=aK (show w0.heap.size≤W.heap.size from hB.size)
 have HBB:=aK hbb
 have HMM:=aK hm
 have HI:=aK (show Tryz.prog.info? 5=some i0∧i0.zero=some (.int .u8 0)∧i0.size=1∧i0.bytes=1 from ⟨hi0,hz0,hs0,hb0⟩)
 have p0:=(blk_cell hb 0).trans rfl
 have p1:=(blk_cell (blk_alloc hb (.cells #[.int .u8 (n / 16777216 % 256),.int .u8 (n / 65536 % 256),.int .u8 (n / 256 % 256),.int .u8 (n % 256)] 5)) 0).trans rfl
 clear hb hB hbb hm hi0 hz0 hs0 hb0
 go_enter Tryz.func69,Tryz.ntmps69
 go_wp2_with ((with_reducible refine gate_builtin (b:=.append) (xs:=#[.tmp 8,.tmp 20]) rfl ?_);at_builtin;refine wpList_append_arg (W.alloc (.cells #[.int .u8 (n / 16777216 % 256),.int .u8 (n / 65536 % 256),.int .u8 (n / 256 % 256),.int .u8 (n % 256)] 5)) rfl (.tmp 8) (.tmp 20) 28 rfl 5 i0 (.int .u8 0) 1 1 Tryz.underlying28 HI.out.1 HI.out.2.1 HI.out.2.2.1 HI.out.2.2.2 rfl (by decide) g 0 4 4 (nums .u8 magicB) rfl rfl ?aO ⟨W.heap.size,0,none⟩ 4 4 (nums .u8 (be4 n)) rfl rfl ?aN ?a1 (fun h=>by omega) (by decide) (by decide) (fun h=>by omega) ?_;(case aO=>intro j u hj;have:=HMM.out j u hj;exact (World.cell?_alloc_lt _ _ _ (World.block_lt_of_cell? _ _ this)).trans this);(case aN=>intro j u hj;have:=blk_cell (blk_new W (.cells #[.int .u8 (n / 16777216 % 256),.int .u8 (n / 65536 % 256),.int .u8 (n / 256 % 256),.int .u8 (n % 256)] 5)) j;rw [Addr.add_lit];simp only [Nat.zero_add];rw [this];simpa [nums,be4] using hj);(case a1=>intro u hu';simp [nums] at hu';obtain ⟨_,_,rfl⟩:=hu';rfl);intro _ v1 w1 ho hg;have ho1:=own_weaken ho (show W.heap.size≤(W.alloc (.cells #[.int .u8 (n / 16777216 % 256),.int .u8 (n / 65536 % 256),.int .u8 (n / 256 % 256),.int .u8 (n % 256)] 5)).heap.size by simp);have hg':W.grownBy w1 none:=⟨hg.os,hg.tape,hg.output,by have:=hg.size;simp at this;omega,fun k hk hne=>(hg.block k (by simp;omega) hne).trans ((below_alloc (Below.refl W.heap.size W) _).block k hk)⟩;have q0:=(blk_cell (blk_grown HK.out hg' (by simp)) 0).trans rfl;have q1:=blk_frozen (blk_grown HK.out hg' (by simp)) 0;have HFP:=aK (file_put0 (l':=magicB++be4 n) HK.out ho1 hg' HB.out HBB.out);obtain ⟨A1,c1,rfl⟩:=own_slice ho1;clear ho ho1 hg hg')
 go_end0
 exact ⟨rfl,HFP.out⟩
set_option maxHeartbeats 16000000 in
theorem pack_calls (sz : Int) (A1 : Option Addr) (c1 : Nat) (cs : List S50) (A2 : Option Addr) (c2 : Nat) (rs : List S45) (w : World)
  (hr1:Kd.C k50 w A1 cs.length cs) (hr2:Kd.C k45 w A2 rs.length rs) (hl1:cs.length≤1000) (hl2:rs.length≤1000) :
  Calls Tryz.prog 30 #[.agg #[.int .i64 sz,.slice A1 cs.length c1,.slice A2 rs.length c2]] w fun e w'=>∃ v,e = .returned v∧Kd.R (Kd.int .u8) 5 w' w.heap.size (fun _=>True) v (fileB sz cs rs)∧Below w.heap.size w w':=by
 have hu25:=Tryz.underlying25
 have hu50:=Tryz.underlying50
 have hu45:=Tryz.underlying45
 have hu73:=Tryz.underlying73
 have hu98:=Tryz.underlying98
 have HR1:=aK hr1
 have HR2:=aK hr2
 have HL1:=aK hl1
 have HL2:=aK hl2
 clear hr1 hr2 hl1 hl2
 obtain ⟨bf,hbf⟩ : ∃ bf,bf=w.heap.size+1+1:=⟨_,rfl⟩
 have kc:(convert 28 28 (.slice (some ⟨w.heap.size+1,0,none⟩) 4 4)).run Tryz.prog ((w.alloc (.cells #[.int .i64 sz,.slice A1 cs.length c1,.slice A2 rs.length c2] 25)).alloc (.cells #[.int .u8 70,.int .u8 77,.int .u8 69,.int .u8 84] 5)) = .ok (.slice (some ⟨w.heap.size+1,0,none⟩) 4 4) ((w.alloc (.cells #[.int .i64 sz,.slice A1 cs.length c1,.slice A2 rs.length c2] 25)).alloc (.cells #[.int .u8 70,.int .u8 77,.int .u8 69,.int .u8 84] 5 (4,5))):=by
  have:=Lib.run_convert_bytes_const (P:=Tryz.prog) (w.alloc (.cells #[.int .i64 sz,.slice A1 cs.length c1,.slice A2 rs.length c2] 25)) 28 5 #[.int .u8 70,.int .u8 77,.int .u8 69,.int .u8 84] 4 4 Tryz.underlying28 Tryz.underlying5
  rw [World.size_alloc] at this
  exact this
 have HB1:=aK (below_alloc (below_alloc (below_alloc (Below.refl w.heap.size w) (.cells #[.int .i64 sz,.slice A1 cs.length c1,.slice A2 rs.length c2] 25)) (.cells #[.int .u8 70,.int .u8 77,.int .u8 69,.int .u8 84] 5 (4,5))) (.cells #[.slice (some ⟨w.heap.size+1,0,none⟩) 4 4] 98))
 have hq0:=blk_alloc (blk_alloc (blk_new w (.cells #[.int .i64 sz,.slice A1 cs.length c1,.slice A2 rs.length c2] 25)) (.cells #[.int .u8 70,.int .u8 77,.int .u8 69,.int .u8 84] 5 (4,5))) (.cells #[.slice (some ⟨w.heap.size+1,0,none⟩) 4 4] 98)
 have hq1:=blk_new ((w.alloc (.cells #[.int .i64 sz,.slice A1 cs.length c1,.slice A2 rs.length c2] 25)).alloc (.cells #[.int .u8 70,.int .u8 77,.int .u8 69,.int .u8 84] 5 (4,5))) (.cells #[.slice (some ⟨w.heap.size+1,0,none⟩) 4 4] 98)
 simp only [World.size_alloc] at hq1
 have hmg : ∀ j u,(nums .u8 magicB)[j]?=some u→((w.alloc (.cells #[.int .i64 sz,.slice A1 cs.length c1,.slice A2 rs.length c2] 25)).alloc (.cells #[.int .u8 70,.int .u8 77,.int .u8 69,.int .u8 84] 5 (4,5))).cell? ⟨w.heap.size+1,0+j,none⟩=some u:=by
  intro j u hj
  have:=blk_new (w.alloc (.cells #[.int .i64 sz,.slice A1 cs.length c1,.slice A2 rs.length c2] 25)) (.cells #[.int .u8 70,.int .u8 77,.int .u8 69,.int .u8 84] 5 (4,5))
  simp only [World.size_alloc] at this
  simp only [World.cell?,this,Nat.zero_add]
  simpa [nums,magicB] using hj
 have HMG:Aside0 (∀ j u,(nums .u8 magicB)[j]?=some u→(((w.alloc (.cells #[.int .i64 sz,.slice A1 cs.length c1,.slice A2 rs.length c2] 25)).alloc (.cells #[.int .u8 70,.int .u8 77,.int .u8 69,.int .u8 84] 5 (4,5))).alloc (.cells #[.slice (some ⟨w.heap.size+1,0,none⟩) 4 4] 98)).cell? ⟨w.heap.size+1,0+j,none⟩=some u):=⟨fun j u hj=>(World.cell?_alloc_lt _ _ _ (World.block_lt_of_cell? _ _ (hmg j u hj))).trans (hmg j u hj)⟩
 have HM:=aK hq0
 have HX:=aK hq1
 have m0:=(blk_cell hq0 0).trans rfl
 rw [← hbf] at HX
 have HBF:Aside0 (w.heap.size≤bf∧w.heap.size≠bf):=⟨by omega,by omega⟩
 have HBE:=aK hbf
 clear hq0 hq1 hmg
 go_enter Tryz.func30,Tryz.ntmps30
 go_upto_region 2 with (fail)
 rw [← HBE.out]
 generalize ((w.alloc (.cells #[.int .i64 sz,.slice A1 cs.length c1,.slice A2 rs.length c2] 25)).alloc (.cells #[.int .u8 70,.int .u8 77,.int .u8 69,.int .u8 84] 5 (4,5))).alloc (.cells #[.slice (some ⟨w.heap.size+1,0,none⟩) 4 4] 98)=V at *
 clear HBE hbf kc
 go_wp2_with fail
 refine (fileFour0 w bf _ sz _ HB1.out HBF.out.1 HX.out HMG.out).mono ?_
 rintro e W4 ⟨rfl,hF,hB,hK⟩
 have hM4:=hK.blk HM.out (by decide) HBF.out.2
 have I0:Aside0 (PackI w ((W4.alloc (.cells #[.slice none 0 0,.slice none 0 0,.slice none 0 0] 73)).alloc (.cells dimV 100)) w.heap.size bf W4.heap.size (W4.heap.size+1) #[.int .i64 sz,.slice A1 cs.length c1,.slice A2 rs.length c2] (tabJ cs) 0 (magicB++be4 sz)):=by
  obtain ⟨v,hv,hvR⟩:=hF
  refine ⟨⟨below_alloc (below_alloc hB _) _,⟨HBF.out.1,hB.size⟩,⟨v,blk_alloc (blk_alloc hv _) _,Kd.R_alloc (Kd.R_alloc hvR _) _⟩,blk_alloc (blk_alloc hM4 _) _,?_,_,blk_alloc (blk_new W4 _) _,rfl,fun j hj=>?_⟩⟩
  ·have:=blk_new (W4.alloc (.cells #[.slice none 0 0,.slice none 0 0,.slice none 0 0] 73)) (.cells dimV 100)
   simp only [World.size_alloc] at this
   exact this
  ·refine ⟨.slice none 0 0,?_,by rw [if_neg (by omega)];exact Kd.R_nil _ _ _ _ _⟩
   match j,hj with
   | 0,_=>rfl
   | 1,_=>rfl
   | 2,_=>rfl
 have HH:Aside0 (magicB++be4 sz=headB sz cs 0):=⟨by unfold headB;simp⟩
 have HN0:Aside0 ((magicB++be4 sz).length≤8):=⟨by simp [magicB,be4]⟩
 obtain ⟨bt,hbt⟩ : ∃ bt,bt=W4.heap.size:=⟨_,rfl⟩
 obtain ⟨bd,hbd⟩ : ∃ bd,bd=W4.heap.size+1:=⟨_,rfl⟩
 rw [← hbd,← hbt] at I0
 have HBT:=aK hbt
 have HBD:=aK hbd
 generalize magicB++be4 sz=l0 at *
 clear hF hB hK hM4 HM HX HMG HB1 m0 hbt hbd
 go_upto_region 5 with (fail)
 rw [← HBD.out,← HBT.out]
 have hV:(W4.alloc (.cells #[.slice none 0 0,.slice none 0 0,.slice none 0 0] 73)).alloc (.cells #[.func (.func 70) #[] #[],.func (.func 71) #[] #[],.func (.func 72) #[] #[]] 100)=(W4.alloc (.cells #[.slice none 0 0,.slice none 0 0,.slice none 0 0] 73)).alloc (.cells dimV 100):=rfl
 rw [hV]
 generalize (W4.alloc (.cells #[.slice none 0 0,.slice none 0 0,.slice none 0 0] 73)).alloc (.cells dimV 100)=V5 at *
 clear hV HBT HBD
 go_wp2
 go_loopg [29] 3 (fun gg s29 wr=>∃ (kk:Nat) (l:List Int),kk≤3∧3-kk≤gg∧s29 = .int .i64 kk∧Aside0 (PackI w wr w.heap.size bf bt bd #[.int .i64 sz,.slice A1 cs.length c1,.slice A2 rs.length c2] (tabJ cs) kk l)∧Aside0 (l=headB sz cs kk)∧Aside0 (l.length≤8+4002*kk))
 case atStart=>exact ⟨0,l0,by omega,by omega,rfl,I0,HH,⟨by have:=HN0.out;omega⟩⟩
 case round =>
  clear I0 HH HN0
  obtain ⟨kk,l,hkk,hg,rfl,I,HH,HN⟩:=hrel
  by_cases hlt:kk<3
  ·have hlti:(kk:Int)<3:=by omega
   have hk0:(0:Int)≤(kk:Int):=by omega
   have hd:=(blk_cell I.out.dims kk).trans (dimV_at kk hlt)
   have m0:=(blk_cell I.out.box 0).trans rfl
   have m1:=(blk_cell I.out.box 1).trans rfl
   have m2:=(blk_cell I.out.box 2).trans rfl
   have hc:=table_calls (dimG kk) (dimF kk) (dim_enters kk) (dim_calls kk) sz A1 c1 (.slice A2 rs.length c2) cs wr (Kd.C_below HR1.out I.out.below) (by have:=HL1.out;omega) rfl
   have HE:Aside0 (tabB (cs.map (dimF kk))=tabJ cs kk):=⟨rfl⟩
   have HTL:Aside0 ((tabJ cs kk).length≤1000):=⟨by have:=tabB_len (cs.map (dimF kk));rw [List.length_map] at this;have h2:=HL1.out;unfold tabJ;omega⟩
   rw [HE.out] at hc
   have HNX:=aK (headB_next sz cs kk)
   have HTB:Aside0 (∃ tb,tb=tabJ cs kk):=⟨⟨_,rfl⟩⟩
   obtain ⟨tb,htb⟩:=HTB.out
   rw [← htb] at hc HTL HNX
   have HTE:=aK htb
   clear htb HTB HE
   go_wp2_with fail
   refine hc.mono ?_
   rintro e W2 ⟨v,rfl,ho,hb⟩
   obtain ⟨A9,c9,rfl⟩:=Kd.R_slice ho
   have I2:=aK (I.out.ofBelow hb)
   have HO:=aK (Kd.R_lower ho I.out.below.size)
   clear hc m0 m1 m2 hd ho hb I
   obtain ⟨tv,ht,hts,htr⟩:=I2.out.tabs
   obtain ⟨vk,hvk,-⟩:=htr kk hlt
   have q0:=(blk_cell ht kk).trans hvk
   have q1:=blk_frozen ht kk
   have q2:(W2.setCell ⟨bt,kk,none⟩ (.slice A9 tb.length c9)).cell? ⟨bt,kk,none⟩=some (.slice A9 tb.length c9):=(blk_cell (blk_set ht kk _) kk).trans (by rw [Array.getElem?_setIfInBounds_self_of_lt (by omega)])
   have I3:=aK (I2.out.store (v:=.slice A9 tb.length c9) hlt (by rw [← HTE.out];exact HO.out))
   have HT3:=aK (blk_set ht kk (.slice A9 tb.length c9))
   have HO3:=aK (Kd.R_set HO.out ht (by intro q hq;simp [Kd.int,Kd.scalar] at hq;subst hq;decide) kk (.slice A9 tb.length c9))
   have HTS:=aK hts
   clear ht hts htr hvk I2 HO
   go_wp2_with fail
   refine (fileTwo w bf ((tb.length:Int)) l _ I3.out.below I3.out.le.1 I3.out.file (by have:=HN.out;omega)).mono ?_
   rintro e W4 ⟨rfl,hF,hB,hK⟩
   have I4:=aK (I3.out.ofFile hF hB hK)
   have HT4:=aK (hK.blk HT3.out (by decide) (blk_ne HT3.out I3.out.file.choose_spec.1 (by decide)))
   have HO4:=aK (hK.row HO3.out I3.out.file.choose_spec.1 (by intro q hq;simp [Kd.int,Kd.scalar] at hq;subst hq;decide))
   clear hF hB hK I3
   have q3:W4.cell? ⟨bt,kk,none⟩=some (.slice A9 tb.length c9):=(blk_cell HT4.out kk).trans (by rw [Array.getElem?_setIfInBounds_self_of_lt (by have:=HTS.out;omega)])
   clear q0 q1 q2 HT3 HO3
   obtain ⟨l4,hl4⟩ : ∃ l4,l4=l++be2 tb.length:=⟨_,rfl⟩
   rw [← hl4] at I4
   have HL4:Aside0 (l4.length≤l.length+2):=⟨by rw [hl4];simp [be2]⟩
   have HE4:=aK hl4
   clear hl4
   go_wp2
   clear q3
   obtain ⟨wo,hwo⟩ : ∃ wo:World,wo=wr:=⟨_,rfl⟩
   subst hwo
   go_loopg [49] tb.length (fun gg s49 wr=>∃ (jj:Nat) (l':List Int),jj≤tb.length∧tb.length-jj≤gg∧s49 = .int .i64 jj∧Aside0 (PackI w wr w.heap.size bf bt bd #[.int .i64 sz,.slice A1 cs.length c1,.slice A2 rs.length c2] (tabJ cs) (kk+1) l')∧Aside0 (l'=l4++(tb.take jj).flatMap be4)∧Aside0 (l'.length≤l4.length+4*jj)∧Aside0 (Kd.R (Kd.int .i64) 3 wr w.heap.size (fun _=>True) (.slice A9 tb.length c9) tb))
   case atStart=>exact ⟨0,l4,by omega,by omega,rfl,I4,⟨by simp⟩,⟨by omega⟩,HO4⟩
   case round =>
    clear I4 HO4 HT4
    obtain ⟨jj,l',hjj,hg2,rfl,I4,HE5,HL5,HO4⟩:=hrel
    by_cases hlt2:jj<tb.length
    ·have hlt2i:(jj:Int)<(tb.length:Int):=by omega
     obtain ⟨ad,e1,hx⟩:=at_I (Kd.R_reads' HO4.out).2.2 (jj:Int) (by omega) hlt2i
     simp only [Int.toNat_natCast] at hx
     have hrd:rd tb (jj:Int)=tb[jj]:=by simp [rd,hlt2]
     have HFN:=aK (flat_next be4 tb jj hlt2)
     rw [← hrd] at HFN
     have HSTEP:=aK (show wrap64 ((jj:Int)+1)=((jj+1:Nat):Int) by have:=HTL.out;unfold wrap64;omega)
     generalize rd tb (jj:Int)=y at *
     clear hrd
     subst e1
     go_wp2_with fail
     refine (fileFour w bf (y) l' _ I4.out.below I4.out.le.1 I4.out.file (by have h1:=HL5.out;have h2:=HL4.out;have h3:=HN.out;have h4:=HTL.out;omega)).mono ?_
     rintro e W5 ⟨rfl,hF,hB,hK⟩
     have I5:=aK (I4.out.ofFile hF hB hK)
     have HO5:=aK (hK.row HO4.out I4.out.file.choose_spec.1 (by intro q hq;simp [Kd.int,Kd.scalar] at hq;subst hq;decide))
     clear hF hB hK I4
     clear hx
     go_wp2
     go_roundg (tb.length-(jj+1))
     case measure=>omega
     case rel=>exact ⟨jj+1,l'++be4 y,by omega,by omega,congrArg (Value.int .i64) HSTEP.out,I5,⟨by rw [HE5.out,HFN.out,List.append_assoc]⟩,⟨by have:=HL5.out;simp only [List.length_append,be4,List.length_cons,List.length_nil];omega⟩,HO5⟩
    ·have hlt2i : ¬ (jj:Int)<(tb.length:Int):=by omega
     obtain rfl:jj=tb.length:=by omega
     have HH2:Aside0 (l'=headB sz cs (kk+1)):=⟨by rw [HNX.out,HE5.out,HE4.out,HH.out,List.take_length]⟩
     have HN2:Aside0 (l'.length≤8+4002*(kk+1)):=⟨by have h1:=HL5.out;have h2:=HL4.out;have h3:=HN.out;have h4:=HTL.out;omega⟩
     have HSTEP:=aK (show wrap64 ((kk:Int)+1)=((kk+1:Nat):Int) by unfold wrap64;omega)
     clear HO4 HE5 HL5 HNX HE4 HL4 HH HN
     go_wp2
     go_roundg (3-(kk+1))
     case measure=>omega
     case rel=>exact ⟨kk+1,l',by omega,by omega,by first|exact congrArg (Value.int .i64) HSTEP.out|go_num,I4,HH2,HN2⟩
  ·have hlti : ¬ (kk:Int)<3:=by omega
   obtain rfl:kk=3:=by omega
   have HN6:Aside0 (l.length≤12014):=⟨by have:=HN.out;omega⟩
   have m1:=(blk_cell I.out.box 1).trans rfl
   clear HN
   go_wp2_with fail
   refine (fileTwo w bf ((cs.length:Int)) l _ I.out.below I.out.le.1 I.out.file (by have:=HN6.out;omega)).mono ?_
   rintro e W6 ⟨rfl,hF,hB,hK⟩
   have I1:=aK (I.out.ofFile hF hB hK)
   clear hF hB hK I
   clear m1
   obtain ⟨l6,hl6⟩ : ∃ l6,l6=l++be2 cs.length:=⟨_,rfl⟩
   rw [← hl6] at I1
   have HL6:Aside0 (l6.length≤12016):=⟨by have:=HN6.out;rw [hl6];simp only [List.length_append,be2,List.length_cons,List.length_nil];omega⟩
   have HE6:Aside0 (l6=headB sz cs 3++be2 cs.length):=⟨by rw [hl6,HH.out]⟩
   have m1:=(blk_cell I1.out.box 1).trans rfl
   clear hl6 HN6 HH
   go_wp2
   clear m1
   obtain ⟨wo,hwo⟩ : ∃ wo:World,wo=wr:=⟨_,rfl⟩
   subst hwo
   go_loopg [66] cs.length (fun gg s66 wr=>∃ (jj:Nat) (l':List Int),jj≤cs.length∧cs.length-jj≤gg∧s66 = .int .i64 jj∧Aside0 (PackI w wr w.heap.size bf bt bd #[.int .i64 sz,.slice A1 cs.length c1,.slice A2 rs.length c2] (tabJ cs) 3 l')∧Aside0 (l'=l6++(cs.take jj).flatMap (charB cs))∧Aside0 (l'.length≤12016+7*jj))
   case atStart=>exact ⟨0,l6,by omega,by omega,rfl,I1,⟨by simp⟩,⟨by have:=HL6.out;omega⟩⟩
   case round =>
    clear I1
    obtain ⟨jj,l',hjj,hg2,rfl,I,HE,HL⟩:=hrel
    by_cases hlt2:jj<cs.length
    ·have hlt2i:(jj:Int)<(cs.length:Int):=by omega
     obtain ⟨ad,e1,hx0,hx1,hx2,hx3⟩:=at_T50 (Kd.C_below HR1.out I.out.below) (jj:Int) (by omega) hlt2i
     simp only [Int.toNat_natCast] at hx0 hx1 hx2 hx3
     have hrd:rd_T50 cs (jj:Int)=cs[jj]:=by simp [rd_T50,List.getD_eq_getElem?_getD,hlt2]
     have HFN:=aK (flat_next (charB cs) cs jj hlt2)
     rw [← hrd] at HFN
     have HSTEP:=aK (show wrap64 ((jj:Int)+1)=((jj+1:Nat):Int) by have:=HL1.out;unfold wrap64;omega)
     generalize rd_T50 cs (jj:Int)=x at *
     clear hrd
     have HBF2:Aside0 (wr.heap.size≠bf):=⟨fun e=>by have:=blk_lt I.out.file.choose_spec.1;omega⟩
     have I1:=aK (I.out.ofBelow (below_alloc (Below.refl wr.heap.size wr) (.cells #[.int .i64 x.f0,.int .i64 x.f1,.int .i64 x.f2,.int .i64 x.f3] 50)))
     have HX1:=aK (blk_new wr (.cells #[.int .i64 x.f0,.int .i64 x.f1,.int .i64 x.f2,.int .i64 x.f3] 50))
     obtain ⟨bc,hbc⟩ : ∃ bc,bc=wr.heap.size:=⟨_,rfl⟩
     rw [← hbc] at HX1 HBF2
     have HBC:=aK hbc
     subst e1
     clear I hbc
     go_upto_region 20 with (fail)
     rw [← HBC.out]
     generalize wr.alloc (.cells #[.int .i64 x.f0,.int .i64 x.f1,.int .i64 x.f2,.int .i64 x.f3] 50)=V6 at *
     clear HBC hx0 hx1 hx2 hx3
     have y0:=(blk_cell HX1.out 0).trans rfl
     go_wp2_with fail
     refine (fileOne w bf (x.f0) l' _ I1.out.below I1.out.le.1 I1.out.file (by have:=HL.out;have:=HL1.out;omega)).mono ?_
     rintro e W7 ⟨rfl,hF,hB,hK⟩
     have I2:=aK (I1.out.ofFile hF hB hK)
     have HX2:=aK (hK.blk HX1.out (by decide) HBF2.out)
     clear hF hB hK I1
     clear y0 HX1
     obtain ⟨l7,hl7⟩ : ∃ l7,l7=l'++be1 x.f0:=⟨_,rfl⟩
     rw [← hl7] at I2
     have HL7:Aside0 (l7.length≤12016+7*jj+1):=⟨by have:=HL.out;rw [hl7];simp only [List.length_append,be1,List.length_cons,List.length_nil];omega⟩
     have HE7:=aK hl7
     clear hl7 HL
     go_wp2
     obtain ⟨wp,hwp⟩ : ∃ wp:World,wp=wr:=⟨_,rfl⟩
     subst hwp
     go_loopg [76] 3 (fun gg s76 wr=>∃ (ii:Nat) (l'':List Int),ii≤3∧3-ii≤gg∧s76 = .int .i64 ii∧Aside0 (PackI w wr w.heap.size bf bt bd #[.int .i64 sz,.slice (some ad) cs.length c1,.slice A2 rs.length c2] (tabJ cs) 3 l'')∧Aside0 (l''=l7++dimsB cs x ii)∧Aside0 (l''.length≤12016+7*jj+1+2*ii)∧Aside0 (wr.heap[bc]?=some (.cells #[.int .i64 x.f0,.int .i64 x.f1,.int .i64 x.f2,.int .i64 x.f3] 50 (0,0))))
     case atStart=>exact ⟨0,l7,by omega,by omega,rfl,I2,⟨by simp [dimsB]⟩,⟨by have:=HL7.out;omega⟩,HX2⟩
     case round =>
      clear I2 HX2
      obtain ⟨ii,l'',hii,hg3,rfl,I,HE8,HL8,HX⟩:=hrel
      by_cases hlt3:ii<3
      ·have hlt3i:(ii:Int)<3:=by omega
       have hi0:(0:Int)≤(ii:Int):=by omega
       have hd:=(blk_cell I.out.dims ii).trans (dimV_at ii hlt3)
       obtain ⟨tv,ht,hts,htr⟩:=I.out.tabs
       obtain ⟨vi,hvi,hri⟩:=htr ii hlt3
       rw [if_pos hlt3] at hri
       have HDN:=aK (dimsB_next cs x ii)
       have HTL:Aside0 ((tabJ cs ii).length≤1000):=⟨by have:=tabB_len (cs.map (dimF ii));rw [List.length_map] at this;have h2:=HL1.out;unfold tabJ;omega⟩
       have hbs:=bsearch_is (tabJ cs ii) (dimF ii x) (tabB_sorted _) (by have:=HTL.out;omega)
       have hof:=fun W=>dim_calls ii W x
       generalize tabJ cs ii=tb at *
       generalize dimF ii x=y at *
       obtain ⟨bb,hbs⟩:=hbs
       have hidx:idxB tb y≤1000:=by have h1:idxB tb y≤tb.length:=List.countP_le_length;have:=HTL.out;omega
       generalize idxB tb y=ix at *
       obtain ⟨A9,c9,rfl⟩:=Kd.R_slice hri
       have hCC:=Kd.R_reads' hri
       have P0:=aK (show wr.drew.cell? ⟨bt,ii,none⟩=some (.slice A9 tb.length c9) from (blk_cell ht ii).trans hvi)
       have P1:=aK (show wr.drew.cell? ⟨bc,0,none⟩=some (.int .i64 x.f0) from (blk_cell HX.out 0).trans rfl)
       have P2:=aK (show wr.drew.cell? ⟨bc,1,none⟩=some (.int .i64 x.f1) from (blk_cell HX.out 1).trans rfl)
       have P3:=aK (show wr.drew.cell? ⟨bc,2,none⟩=some (.int .i64 x.f2) from (blk_cell HX.out 2).trans rfl)
       have P4:=aK (show wr.drew.cell? ⟨bc,3,none⟩=some (.int .i64 x.f3) from (blk_cell HX.out 3).trans rfl)
       have HOF:=aK hof
       have HCC:=aK hCC
       have HBS:=aK hbs
       have HSTEP2:=aK (show wrap64 ((ii:Int)+1)=((ii+1:Nat):Int) by unfold wrap64;omega)
       clear ht hts htr hvi hri hof hCC hbs
       go_upto_region 24 with (fail)
       clear hd
       refine start_ (n:=12) (S:=fun w'=>w'.cell? ⟨bt,ii,none⟩=some (.slice A9 tb.length c9)∧w'.cell? ⟨bc,0,none⟩=some (.int .i64 x.f0)∧w'.cell? ⟨bc,1,none⟩=some (.int .i64 x.f1)∧w'.cell? ⟨bc,2,none⟩=some (.int .i64 x.f2)∧w'.cell? ⟨bc,3,none⟩=some (.int .i64 x.f3)) (ds:=[6]) #[false,false,false,false,false,false,false,false,false,false,false,false] (by kernel_rfl) rfl rfl ⟨P0.out,P1.out,P2.out,P3.out,P4.out⟩ (fun hHeld=>?_)
       refine pu 0 (some 82) ?_ rfl rfl (by kernel_rfl) (fun _ _ _ h=>h) (.inl ⟨by rfl,?_⟩) ?_ ?_ ?_;rotate_left;intro w';go_simp;with_reducible rfl;rotate_left;simp only [nS];rfl
       refine pu 1 (some 83) ?_ rfl rfl (by kernel_rfl) (fun _ _ _ h=>h) (.inl ⟨by rfl,?_⟩) ?_ ?_ ?_;rotate_left;intro w';go_simp;with_reducible rfl;rotate_left;simp only [nS];rfl
       refine pu 3 (some 85) ?_ rfl rfl (by kernel_rfl) (fun _ _ _ h=>h) (.inl ⟨by rfl,?_⟩) ?_ ?_ ?_;rotate_left;intro w';go_simp;with_reducible rfl;rotate_left;simp only [nS];rfl
       refine tk 2 (some 84) ?_ rfl rfl (by kernel_rfl) (fun _ _ _ h=>h) (.inl ⟨by rfl,?_⟩) hHeld ?_ ?_ ?_;rotate_left;rintro w' ⟨s0,s1,s2,s3,s4⟩;go_simp;with_reducible rfl;rotate_left;simp only [nS];rfl
       refine tk 4 (some 86) ?_ rfl rfl (by kernel_rfl) (fun _ _ _ h=>h) (.inl ⟨by rfl,?_⟩) hHeld ?_ ?_ ?_;rotate_left;rintro w' ⟨s0,s1,s2,s3,s4⟩;go_simp;with_reducible rfl;rotate_left;simp only [nS];rfl
       refine one_ (i:=5) (N:=some 87) #[true,true,true,true,true,true,false,false,false,false,false,false] rfl rfl (by kernel_rfl) (by decide) (fun K hK=>?_)
       refine goesv_ #[] #[.agg #[.int .i64 x.f0,.int .i64 x.f1,.int .i64 x.f2,.int .i64 x.f3]] (dim_enters ii) (by rfl) rfl rfl (by rfl) (by simp only [List.map_toArray,List.map_cons,List.map_nil];rfl) ?_
       refine (HOF.out _).mono ?_
       rintro e w8 ⟨rfl,hk8⟩
       have HK8:=aK hk8
       refine ⟨_,rfl,?_⟩
       refine hK.out _ _ ⟨(HK8.out.cell (World.block_lt_of_cell? _ _ hHeld.1)).trans hHeld.1,(HK8.out.cell (World.block_lt_of_cell? _ _ hHeld.2.1)).trans hHeld.2.1,(HK8.out.cell (World.block_lt_of_cell? _ _ hHeld.2.2.1)).trans hHeld.2.2.1,(HK8.out.cell (World.block_lt_of_cell? _ _ hHeld.2.2.2.1)).trans hHeld.2.2.2.1,(HK8.out.cell (World.block_lt_of_cell? _ _ hHeld.2.2.2.2)).trans hHeld.2.2.2.2⟩ (fun hHeld=>?_)
       clear hK K
       refine norm_ (a':=?_) ?_ ?_;rotate_left;show Act.put _ (some 87) _=_;simp only [nS];rfl
       refine last_ (i:=6) (N:=some 88) #[true,true,true,true,true,true,true,false,false,false,false,false] rfl rfl (by kernel_rfl) (by decide) (fun K hK=>?_)
       refine goes_ Tryz.func76 (by kernel_rfl) rfl #[.slice A9 tb.length c9,.int .i64 y] (by rfl) rfl rfl (by simp only [List.map_toArray,List.map_cons,List.map_nil];rfl) ?_
       refine (slices_BinarySearch_int_int.calls (tb.length+1) A9 c9 tb y _ bb _ (Kd.C_below (Kd.C_drew HCC.out.2.2) HK8.out) HCC.out.2.1 HBS.out).mono ?_
       rintro e w9 ⟨rfl,⟨n9,rfl⟩⟩
       refine ⟨_,rfl,?_⟩
       refine hK.out _ _ ?_
       clear hK K
       refine norm_ (a':=?_) ?_ ?_;rotate_left;show Act.put _ (some 88) _=_;simp only [nS];rfl
       refine pu 7 (some 81) ?_ rfl rfl (by kernel_rfl) (fun _ _ _ h=>h) (.inl ⟨by rfl,?_⟩) ?_ ?_ ?_;rotate_left;intro w';go_simp;with_reducible rfl;rotate_left;simp only [nS];rfl
       refine pu 8 (some 89) ?_ rfl rfl (by kernel_rfl) (fun _ _ _ h=>h) (.inl ⟨by rfl,?_⟩) ?_ ?_ ?_;rotate_left;intro w';go_simp;with_reducible rfl;rotate_left;simp only [nS];rfl
       refine pu 9 (some 90) ?_ rfl rfl (by kernel_rfl) (fun _ _ _ h=>h) (.inl ⟨by rfl,?_⟩) ?_ ?_ ?_;rotate_left;intro w';go_simp;with_reducible rfl;rotate_left;simp only [nS];rfl
       refine pu 10 (some 14) ?_ rfl rfl (by kernel_rfl) (fun _ _ _ h=>h) (.inl ⟨by rfl,?_⟩) ?_ ?_ ?_;rotate_left;intro w';go_simp;with_reducible rfl;rotate_left;simp only [nS];rfl
       refine pu 11 (some 15) ?_ rfl rfl (by kernel_rfl) (fun _ _ _ h=>h) (.inl ⟨by rfl,?_⟩) ?_ ?_ ?_;rotate_left;intro w';go_simp;with_reducible rfl;rotate_left;simp only [nS];rfl
       refine done_ (by kernel_rfl) ?_
       have I1:=aK ((I.out.ofBelow (below_drew1 (Below.refl wr.heap.size wr))).ofBelow (pw_below_drewN HK8.out n9))
       have HX1:=aK (blk_drewN (blk_below (blk_drew HX.out) HK8.out) n9)
       clear I HX P0 P1 P2 P3 P4 HK8 HOF HCC HBS
       go_wp2_with fail
       refine (fileTwo w bf ((ix:Int)) l'' _ I1.out.below I1.out.le.1 I1.out.file (by have:=HL8.out;have:=HL1.out;omega)).mono ?_
       rintro e W8 ⟨rfl,hF,hB,hK⟩
       have I2:=aK (I1.out.ofFile hF hB hK)
       have HX2:=aK (hK.blk HX1.out (by decide) HBF2.out)
       clear hF hB hK I1
       clear HX1
       go_wp2
       go_roundg (3-(ii+1))
       case measure=>omega
       case rel=>exact ⟨ii+1,l''++be2 ix,by omega,by omega,by first|exact congrArg (Value.int .i64) HSTEP2.out|go_num,I2,⟨by rw [HDN.out,HE8.out,List.append_assoc]⟩,⟨by have:=HL8.out;simp only [List.length_append,be2,List.length_cons,List.length_nil];omega⟩,HX2⟩
      ·have hlt3i : ¬ (ii:Int)<3:=by omega
       obtain rfl:ii=3:=by omega
       have HE9:Aside0 (l''=l6++(cs.take (jj+1)).flatMap (charB cs)):=⟨by rw [HFN.out,HE8.out,HE7.out,HE.out];simp only [charB,List.append_assoc]⟩
       have HL9:Aside0 (l''.length≤12016+7*(jj+1)):=⟨by have:=HL8.out;omega⟩
       clear HE8 HE7 HE HFN HL8 HX
       go_wp2
       go_roundg (cs.length-(jj+1))
       case measure=>omega
       case rel=>exact ⟨jj+1,l'',by omega,by omega,congrArg (Value.int .i64) HSTEP.out,I,HE9,HL9⟩
    ·have hlt2i : ¬ (jj:Int)<(cs.length:Int):=by omega
     obtain rfl:jj=cs.length:=by omega
     have HE2:Aside0 (l'=headB sz cs 3++be2 cs.length++cs.flatMap (charB cs)):=⟨by rw [HE.out,HE6.out,List.take_length]⟩
     have HL2':Aside0 (l'.length≤20000):=⟨by have:=HL.out;have:=HL1.out;omega⟩
     have m1:=(blk_cell I.out.box 2).trans rfl
     clear HE HL HE6 HL6
     go_wp2_with fail
     refine (fileTwo w bf ((rs.length:Int)) l' _ I.out.below I.out.le.1 I.out.file (by have:=HL2'.out;omega)).mono ?_
     rintro e W8 ⟨rfl,hF,hB,hK⟩
     have I1:=aK (I.out.ofFile hF hB hK)
     clear hF hB hK I
     clear m1
     obtain ⟨l8,hl8⟩ : ∃ l8,l8=l'++be2 rs.length:=⟨_,rfl⟩
     rw [← hl8] at I1
     have HL8:Aside0 (l8.length≤20002):=⟨by have:=HL2'.out;rw [hl8];simp only [List.length_append,be2,List.length_cons,List.length_nil];omega⟩
     have HE8:Aside0 (l8=headB sz cs 3++be2 cs.length++cs.flatMap (charB cs)++be2 rs.length):=⟨by rw [hl8,HE2.out]⟩
     have m1:=(blk_cell I1.out.box 2).trans rfl
     clear hl8 HE2 HL2'
     go_wp2
     clear m1
     obtain ⟨wp,hwp⟩ : ∃ wp:World,wp=wr:=⟨_,rfl⟩
     subst hwp
     go_loopg [104] rs.length (fun gg s104 wr=>∃ (ii:Nat) (l'':List Int),ii≤rs.length∧rs.length-ii≤gg∧s104 = .int .i64 ii∧Aside0 (PackI w wr w.heap.size bf bt bd #[.int .i64 sz,.slice A1 cs.length c1,.slice A2 rs.length c2] (tabJ cs) 3 l'')∧Aside0 (l''=l8++(rs.take ii).flatMap ruleB)∧Aside0 (l''.length≤20002+7*ii))
     case atStart=>exact ⟨0,l8,by omega,by omega,rfl,I1,⟨by simp⟩,⟨by have:=HL8.out;omega⟩⟩
     case round =>
      clear I1
      obtain ⟨ii,l'',hii,hg3,rfl,I,HE9,HL9⟩:=hrel
      by_cases hlt3:ii<rs.length
      ·have hlt3i:(ii:Int)<(rs.length:Int):=by omega
       obtain ⟨ad,e1,hx0,hx1,hx2,hx3⟩:=at_T45 (Kd.C_below HR2.out I.out.below) (ii:Int) (by omega) hlt3i
       simp only [Int.toNat_natCast] at hx0 hx1 hx2 hx3
       have hrd:rd_T45 rs (ii:Int)=rs[ii]:=by simp [rd_T45,List.getD_eq_getElem?_getD,hlt3]
       have HFN:=aK (flat_next ruleB rs ii hlt3)
       rw [← hrd] at HFN
       have HSTEP:=aK (show wrap64 ((ii:Int)+1)=((ii+1:Nat):Int) by have:=HL2.out;unfold wrap64;omega)
       generalize rd_T45 rs (ii:Int)=x at *
       clear hrd
       have HBF2:Aside0 (wr.heap.size≠bf):=⟨fun e=>by have:=blk_lt I.out.file.choose_spec.1;omega⟩
       have I1:=aK (I.out.ofBelow (below_alloc (Below.refl wr.heap.size wr) (.cells #[.int .i64 x.f0,.int .i64 x.f1,.int .i64 x.f2,.int .i64 x.f3] 45)))
       have HX1:=aK (blk_new wr (.cells #[.int .i64 x.f0,.int .i64 x.f1,.int .i64 x.f2,.int .i64 x.f3] 45))
       obtain ⟨bc,hbc⟩ : ∃ bc,bc=wr.heap.size:=⟨_,rfl⟩
       rw [← hbc] at HX1 HBF2
       have HBC:=aK hbc
       subst e1
       clear I hbc
       go_upto_region 32 with (fail)
       rw [← HBC.out]
       generalize wr.alloc (.cells #[.int .i64 x.f0,.int .i64 x.f1,.int .i64 x.f2,.int .i64 x.f3] 45)=V6 at *
       clear HBC hx0 hx1 hx2 hx3
       have y0:=(blk_cell HX1.out 0).trans rfl
       go_wp2_with fail
       refine (fileOne w bf (x.f0) l'' _ I1.out.below I1.out.le.1 I1.out.file (by have:=HL9.out;have:=HL2.out;omega)).mono ?_
       rintro e X1 ⟨rfl,hF,hB,hK⟩
       have I2:=aK (I1.out.ofFile hF hB hK)
       have HX2:=aK (hK.blk HX1.out (by decide) HBF2.out)
       clear hF hB hK I1
       clear y0 HX1
       have y0:=(blk_cell HX2.out 1).trans rfl
       go_wp2_with fail
       refine (fileOne w bf (x.f1) _ _ I2.out.below I2.out.le.1 I2.out.file (by have:=HL9.out;have:=HL2.out;simp only [List.length_append,be1,List.length_cons,List.length_nil];omega)).mono ?_
       rintro e X2 ⟨rfl,hF,hB,hK⟩
       have I3:=aK (I2.out.ofFile hF hB hK)
       have HX3:=aK (hK.blk HX2.out (by decide) HBF2.out)
       clear hF hB hK I2
       clear y0 HX2
       have y0:=(blk_cell HX3.out 2).trans rfl
       go_wp2_with fail
       refine (fileOne w bf (x.f2) _ _ I3.out.below I3.out.le.1 I3.out.file (by have:=HL9.out;have:=HL2.out;simp only [List.length_append,be1,List.length_cons,List.length_nil];omega)).mono ?_
       rintro e X3 ⟨rfl,hF,hB,hK⟩
       have I4:=aK (I3.out.ofFile hF hB hK)
       have HX4:=aK (hK.blk HX3.out (by decide) HBF2.out)
       clear hF hB hK I3
       clear y0 HX3
       have y0:=(blk_cell HX4.out 3).trans rfl
       go_wp2_with fail
       refine (fileFour w bf (x.f3) _ _ I4.out.below I4.out.le.1 I4.out.file (by have:=HL9.out;have:=HL2.out;simp only [List.length_append,be1,List.length_cons,List.length_nil];omega)).mono ?_
       rintro e X4 ⟨rfl,hF,hB,hK⟩
       have I5:=aK (I4.out.ofFile hF hB hK)
       clear hF hB hK I4
       clear y0 HX4
       go_wp2
       go_roundg (rs.length-(ii+1))
       case measure=>omega
       case rel=>exact ⟨ii+1,_,by omega,by omega,congrArg (Value.int .i64) HSTEP.out,I5,⟨by rw [HFN.out,HE9.out];simp only [ruleB,List.append_assoc]⟩,⟨by have:=HL9.out;simp only [List.length_append,be1,be4,List.length_cons,List.length_nil];omega⟩⟩
      ·have hlt3i : ¬ (ii:Int)<(rs.length:Int):=by omega
       obtain rfl:ii=rs.length:=by omega
       have HB9:Aside0 (l''=bodyB sz cs rs):=⟨by rw [HE9.out,HE8.out,List.take_length];rfl⟩
       have HL10:Aside0 (l''.length≤1000000000):=⟨by have:=HL9.out;have:=HL2.out;omega⟩
       clear HE9 HL9 HE8 HL8
       go_wp2_with fail
       refine (finish_calls w bf l'' _ I.out.below I.out.le.1 I.out.file HL10.out).mono ?_
       rintro e W9 ⟨v,rfl,ho,hb⟩
       obtain ⟨A9,c9,rfl⟩:=Kd.R_slice ho
       have hF:l''++be4 (sumB l'')=fileB sz cs rs:=by rw [HB9.out];rfl
       have HF:=aK hF
       have HO:=aK ho
       have HB:=aK hb
       clear hF ho hb I
       go_wp2
       go_ret
       have h:=HO.out
       rw [HF.out] at h
       have h2:=HF.out
       rw [← h2] at h ⊢
       rw [List.length_append] at h
       exact ⟨_,rfl,h,HB.out⟩
def packM (sz:Int) (cs:List S50) (rs:List S45):List Int×Int:=if validM sz cs rs then (fileB sz cs rs,0) else ([],2)
set_option maxHeartbeats 8000000 in
theorem Pack_calls (sz : Int) (A1 : Option Addr) (c1 : Nat) (cs : List S50) (A2 : Option Addr) (c2 : Nat) (rs : List S45) (w : World)
  (hr1:Kd.C k50 w A1 cs.length cs) (hr2:Kd.C k45 w A2 rs.length rs) (hl1:cs.length≤1000000) (hl2:rs.length≤1000000) :
  Calls Tryz.prog 11 #[.agg #[.int .i64 sz,.slice A1 cs.length c1,.slice A2 rs.length c2]] w fun e w'=>∃ v,e = .returned (.tuple #[v,.int .i64 (packM sz cs rs).2])∧Kd.R (Kd.int .u8) 5 w' w.heap.size (fun _=>True) v (packM sz cs rs).1∧Below w.heap.size w w':=by
 have hu:=Tryz.underlying25
 have HR1:=aK hr1
 have HR2:=aK hr2
 have HL1:=aK hl1
 have HL2:=aK hl2
 have HM:=aK (blk_new w (.cells #[.int .i64 sz,.slice A1 cs.length c1,.slice A2 rs.length c2] 25))
 have HB:=aK (below_alloc (Below.refl w.heap.size w) (.cells #[.int .i64 sz,.slice A1 cs.length c1,.slice A2 rs.length c2] 25))
 obtain ⟨r,hr⟩ : ∃ r,r=packM sz cs rs:=⟨_,rfl⟩
 rw [← hr]
 have HF:=aK hr
 clear hr1 hr2 hl1 hl2 hr
 go_enter Tryz.func11,Tryz.ntmps11
 go_upto_region 1 with (fail)
 generalize w.alloc (.cells #[.int .i64 sz,.slice A1 cs.length c1,.slice A2 rs.length c2] 25)=V at *
 have p0:=(blk_cell HM.out 0).trans rfl
 have p1:=(blk_cell HM.out 1).trans rfl
 have p2:=(blk_cell HM.out 2).trans rfl
 have hc:=valid_calls sz A1 c1 cs A2 c2 rs V (Kd.C_below HR1.out HB.out) (Kd.C_below HR2.out HB.out) (by have:=HL1.out;omega) (by have:=HL2.out;omega)
 cases hv:validM sz cs rs with
 | false =>
  have HO:Aside0 (r=([],2)):=⟨by rw [HF.out,packM,hv];rfl⟩
  rw [hv] at hc
  clear hv HF
  go_wp2_with fail
  refine hc.mono ?_
  clear hc p0 p1 p2
  rintro e W1 ⟨rfl,hb1⟩
  have HB1:=aK (below_step HB.out hb1)
  clear hb1 HB HM
  go_wp2
  go_ret2
  rw [HO.out]
  exact ⟨_,rfl,Kd.R_nil _ _ _ _ _,HB1.out⟩
 | true =>
  have HO:Aside0 (r=(fileB sz cs rs,0)):=⟨by rw [HF.out,packM,hv,if_pos rfl]⟩
  have hle:cs.length≤1000∧rs.length≤1000:=by
   unfold validM validR at hv
   simp only [Bool.and_eq_true,decide_eq_true_eq] at hv
   omega
  have HLL:=aK hle
  rw [hv] at hc
  clear hv HF hle
  go_wp2_with fail
  refine hc.mono ?_
  clear hc p0 p1 p2
  rintro e W1 ⟨rfl,hb1⟩
  have HB1:=aK (below_step HB.out hb1)
  have HM1:=aK (blk_below HM.out hb1)
  clear hb1 HB HM
  have p0:=(blk_cell HM1.out 0).trans rfl
  have p1:=(blk_cell HM1.out 1).trans rfl
  have p2:=(blk_cell HM1.out 2).trans rfl
  have hc:=pack_calls sz A1 c1 cs A2 c2 rs W1 (Kd.C_below HR1.out HB1.out) (Kd.C_below HR2.out HB1.out) HLL.out.1 HLL.out.2
  go_wp2_with fail
  refine hc.mono ?_
  clear hc p0 p1 p2
  rintro e W2 ⟨v,rfl,ho,hb2⟩
  obtain ⟨A9,c9,rfl⟩:=Kd.R_slice ho
  have HO2:=aK (Kd.R_lower ho HB1.out.size)
  have HB2:=aK (below_step HB1.out hb2)
  clear ho hb2
  go_wp2
  go_ret2
  rw [HO.out]
  exact ⟨_,rfl,HO2.out,HB2.out⟩
def IsBytes (l:List Int):Prop:=∀ c∈l,0≤c∧c<256
def takeB (n:Nat) (s:List Int×Bool):List Int×(List Int×Bool):=if s.1.length<n then (List.replicate n 0,([],true)) else (s.1.take n,(s.1.drop n,s.2))
theorem takeB_len (n:Nat) (s:List Int×Bool):(takeB n s).1.length=n:=by
 unfold takeB
 split
 ·simp
 ·simp;omega
theorem takeB_bytes (n:Nat) (s:List Int×Bool) (h:IsBytes s.1):IsBytes (takeB n s).1∧IsBytes (takeB n s).2.1:=by
 unfold takeB
 split
 ·exact ⟨fun c hc=>by rw [List.eq_of_mem_replicate hc];decide,fun c hc=>by cases hc⟩
 ·exact ⟨fun c hc=>h c (List.mem_of_mem_take hc),fun c hc=>h c (List.mem_of_mem_drop hc)⟩
def RdAt (w0 W:World) (b:Nat) (s:List Int×Bool):Prop:=∃ A c,W.heap[b]?=some (.cells #[.slice A s.1.length c,.bool s.2] 70 (0,0))∧s.1.length≤c∧Kd.C (Kd.int .u8) w0 A s.1.length s.1∧IsBytes s.1
theorem RdAt.step {w0 W W2:World} {b:Nat} {s:List Int×Bool} (h:RdAt w0 W b s) (hb:W2.heap[b]?=W.heap[b]?):RdAt w0 W2 b s:=by
 obtain ⟨A,c,h1,h2⟩:=h
 exact ⟨A,c,hb.trans h1,h2⟩
theorem RdAt.lt {w0 W:World} {b:Nat} {s:List Int×Bool} (h:RdAt w0 W b s):b<W.heap.size:=by
 obtain ⟨A,c,h1,_⟩:=h
 exact blk_lt h1
set_option maxHeartbeats 4000000 in
theorem take_calls (w0 : World) (b n : Nat) (s : List Int × Bool) (W : World) (hB : Below w0.heap.size w0 W) (hbb : w0.heap.size ≤ b) (hR : RdAt w0 W b s) (hn0 : 0 < n) (hn : n ≤ 8) (hl : s.1.length ≤ 1000000000000) :
  Calls Tryz.prog 41 #[.pointer (some ⟨b,0,none⟩),.int .i64 n] W fun e w'=>∃ A c,e = .returned (.slice A n c)∧n≤c∧Kd.C (Kd.int .u8) w' A n (takeB n s).1∧RdAt w0 w' b (takeB n s).2∧Below w0.heap.size w0 w'∧KeepBut W w' b none:=by
 have hu:=Tryz.underlying70
 have hn4:n≠0:=by omega
 obtain ⟨i0,hi0,_,hsz,_⟩:=info_parts info5
 obtain ⟨A0,c0,hb,hc0,hC,hby⟩:=hR
 obtain ⟨l,sh⟩:=s
 simp only at *
 have p0:=(blk_cell hb 0).trans rfl
 have HC:=aK hC
 have HB:=aK hB
 have HK:=aK hb
 have HBB:=aK hbb
 have HBY:=aK hby
 have hnz:(0:Int)≤(n:Int):=by omega
 by_cases hlt:l.length<n
 ·have hltz:(l.length:Int)<(n:Int):=by omega
  have HT:Aside0 (takeB n (l,sh)=(List.replicate n 0,([],true))):=⟨by unfold takeB;rw [if_pos hlt]⟩
  generalize takeB n (l,sh)=tk at *
  have q0:=blk_frozen hb 1
  have q1:=(blk_cell hb 1).trans rfl
  have q2:=(blk_cell (blk_set hb 1 (.bool true)) 0).trans rfl
  have q3:=blk_frozen (blk_set hb 1 (.bool true)) 0
  have HS:=aK (blk_put (blk_put hb 1 (.bool true) rfl) 0 (.slice none 0 0) rfl)
  have HB2:=aK (below_set (below_set hB hbb) hbb:Below w0.heap.size w0 ((W.setCell ⟨b,1,none⟩ (.bool true)).setCell ⟨b,0,none⟩ (.slice none 0 0)))
  have HKB:=aK (KeepBut.set_ (KeepBut.set_ (KeepBut.refl W b none) 1 (.bool true)) 0 (.slice none 0 0))
  clear hb hC hB hby hbb hc0
  go_enter Tryz.func41,Tryz.ntmps41
  go_wp2_with ((with_reducible refine gate_dst (N:=20) rfl ?_);refine Kd.R_make (Kd.int .u8) (w0:=w0) w0.heap.size 5 rfl (N:=20) rfl 28 (.tmp 19) (.tmp 19) rfl (n:Int) rfl rfl Tryz.underlying28 (.int .u8 0) 1 info5 rfl (by decide) (by decide) (0:Int) (ok:=fun _=>True) (okp:=fun _=>False) ?aZ (fun _ h=>h.elim) trivial hnz ?aL HB2.out HB2.out.size ?_;(case aZ=>exact rfl);(case aL=>simp only [Int.toNat_natCast];omega);intro v1 w1 ho hb1 hg hat;rw [Int.toNat_natCast] at ho;obtain ⟨A1,c1,rfl⟩:=Kd.R_slice ho;have HO:=aK ho;have HB3:=aK hb1;have HS3:=aK (blk_grown HS.out hg (by simp));have HK3:=aK (KeepBut.trans HKB.out (KeepBut.of_grown hg b) (.inl rfl));clear ho hb1 hg hat)
  go_ret
  have hr:=Kd.R_reads' HO.out
  simp only [List.length_replicate] at hr ⊢
  exact ⟨A1,c1,rfl,hr.2.1,by rw [HT.out];exact hr.2.2,by rw [HT.out];exact ⟨none,0,HS3.out,Nat.le_refl _,Kd.C_nil _ _,fun c hc=>by cases hc⟩,HB3.out,HK3.out⟩
 ·have hltz : ¬ (l.length:Int)<(n:Int):=by omega
  have HT:Aside0 (takeB n (l,sh)=(l.take n,(l.drop n,sh))):=⟨by unfold takeB;rw [if_neg hlt]⟩
  generalize takeB n (l,sh)=tk at *
  have hct:=cut_to (P:=Tryz.prog) 28 5 .i64 Tryz.underlying28 hi0 A0 l.length c0 (n:Int) hnz (by omega) hc0
  have hcf:=cut_from (P:=Tryz.prog) 28 5 .i64 Tryz.underlying28 hi0 1 hsz A0 l.length c0 (n:Int) hnz (by omega)
  rw [Int.toNat_natCast] at hct hcf
  have HD:=aK (Kd.C_drop (m:=n) hC (by omega) hc0)
  have HTK:=aK (Kd.C_take (m:=n) hC (by omega))
  have hd1:(l.drop n).length=l.length-n:=List.length_drop
  have ht1:(l.take n).length=n:=by rw [List.length_take];omega
  rw [hd1] at HD
  rw [ht1] at HTK
  have hk1:(Kd.int .u8).sz=1:=rfl
  rw [hk1] at HD
  generalize hA2:(if c0=n then A0 else Option.map (fun x=>x.add (n*1)) A0)=A2 at *
  have q3:=blk_frozen hb 0
  have HS:=aK (blk_put hb 0 (.slice A2 (l.length-n) (c0-n)) rfl)
  have HB2:=aK (below_set hB hbb:Below w0.heap.size w0 (W.setCell ⟨b,0,none⟩ (.slice A2 (l.length-n) (c0-n))))
  have HKB:=aK (KeepBut.set_ (KeepBut.refl W b none) 0 (.slice A2 (l.length-n) (c0-n)))
  have HD1:=aK hd1
  have HNC:=aK (show n≤c0∧l.length-n≤c0-n from ⟨by omega,by omega⟩)
  clear hb hC hB hby hbb hd1 ht1 hi0 hsz hA2
  go_enter Tryz.func41,Tryz.ntmps41
  go_wp2
  go_ret
  refine ⟨A0,c0,rfl,HNC.out.1,by rw [HT.out];exact Kd.C_below HTK.out HB2.out,?_,HB2.out,HKB.out⟩
  rw [HT.out]
  refine ⟨A2,c0-n,?_,?_,?_,fun c hc=>HBY.out c (List.mem_of_mem_drop hc)⟩
  ·simp only [HD1.out];exact HS.out
  ·simp only [HD1.out];exact HNC.out.2
  ·simp only [HD1.out];exact HD.out
end Go.Proofs.YtoemkemmiikhlaaGreat.PF4
