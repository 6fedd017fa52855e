import Derived.Test.YtoemkemmiikhlaaPC2x0
import Derived.Test.YtoemkemmiikhlaaPC2x3
import Derived.Test.YtoemkemmiikhlaaPC2x4
import Derived.Test.YtoemkemmiikhlaaPC2x9
import Derived.Test.YtoemkemmiikhlaaPC2x10
set_option maxRecDepth 100000
namespace Go.Proofs.Ytoemkemmiikhlaa.PC2
open Go.RowKit Go.Proofs.YtoemkemmiikhlaaW.PrintWords Go.Proofs.YtoemkemmiikhlaaW.PrintLast Go.Proofs.YtoemkemmiikhlaaW.PrintMore
attribute [local go_sem] max2_int min2_int max_two min_two max_three min_three max_four min_four
set_option linter.unusedVariables false
set_option linter.unusedSimpArgs false
theorem holds_row {w:World} {g:Nat} {cur:Array Value} {e:TypeId} {vs:List Value} (hb:w.heap[g]?=some (.cells cur e (0,0))) (ht:cur.toList.take vs.length=vs):Go.Sort.Holds id w g 0 vs.toArray:=by
 intro j hj
 have hj':j<vs.length:=by simpa using hj
 refine ⟨?_,by simp [World.frozen?,hb]⟩
 have h1:(cur.toList.take vs.length)[j]?=vs[j]?:=by rw [ht]
 rw [List.getElem?_take_of_lt hj'] at h1
 simp only [World.cell?,hb,Nat.zero_add]
 simp only [Option.isSome_none,Bool.false_eq_true,if_false]
 rw [← Array.getElem?_toList,h1]
 simp [hj']
theorem heap_row {w : World} {g n : Nat} {cur : Array Value} {e : TypeId} {fr : Nat × Nat} (d : Array Value) (hb : w.heap[g]? = some (.cells cur e fr)) :
  (Go.Sort.putRow id (Go.Sort.ahead w n) g 0 d).heap[g]?=some (.cells (Go.Sort.putCells id 0 d cur) e fr):=by
 simp [Go.Sort.putRow,Go.Sort.mapBlock,Go.Sort.ahead,Array.getElem?_modify,hb,Go.Sort.onCells]
theorem grownBy_row {w:World} {g n:Nat} (d:Array Value):w.grownBy (Go.Sort.putRow id (Go.Sort.ahead w n) g 0 d) (some g):=by
 refine ⟨rfl,rfl,rfl,by simp [Go.Sort.putRow,Go.Sort.mapBlock,Go.Sort.ahead],fun k hk hne=>?_⟩
 have:g≠k:=fun e=>hne (by rw [e])
 simp [Go.Sort.putRow,Go.Sort.mapBlock,Go.Sort.ahead,Array.getElem?_modify,this]
theorem take_row (cur F:Array Value) (h:F.size≤cur.size):(Go.Sort.putCells id 0 F cur).toList.take F.size=F.toList:=by
 apply List.ext_getElem?
 intro j
 by_cases hj:j<F.size
 ·rw [List.getElem?_take_of_lt hj,Array.getElem?_toList]
  simp [Go.Sort.putCells,hj,show j<cur.size by omega]
 ·rw [List.getElem?_take_eq_none (by omega),List.getElem?_eq_none (by simp;omega)]
instance inst4C:Inhabited S41:=⟨z41⟩
def enc4C (x:S41):List Value:=[.int .i64 x.f0,.int .i64 x.f1,.int .i64 x.f2,.int .i64 x.f3]
theorem get_flat4C (xs:List S41) (j:Nat) (hj:j<xs.length) (q:Nat) (hq:q<4):(Go.Sort.flatK enc4C 4 xs.toArray)[j*4+q]?=(enc4C xs[j])[q]?:=by
 have h1:j*4+q<xs.length*4:=by omega
 have h2:(j*4+q) / 4=j:=by omega
 have h3:(j*4+q) % 4=q:=by omega
 have h4:=Go.Sort.get_flatK enc4C 4 xs.toArray (j*4+q) (by simpa using h1)
 rw [h2,h3] at h4
 have h5:j*4+q<(Go.Sort.flatK enc4C 4 xs.toArray).size:=by simpa using h1
 have h6:xs.toArray[j]! = xs[j]:=by simp [hj]
 rw [h6,getElem!_pos (Go.Sort.flatK enc4C 4 xs.toArray) (j*4+q) h5] at h4
 rw [Array.getElem?_eq_getElem h5,h4]
 have h7:q<(enc4C xs[j]).length:=hq
 rw [getElem!_pos (enc4C xs[j]) q h7,List.getElem?_eq_getElem h7]
theorem cells_flat4C {w:World} {base:Nat} {ok:Nat→Prop} {xs:List S41} {cs:List Value} (h:Reps (k41.M w base ok) k41.sz xs cs):Go.Sort.flatK enc4C 4 xs.toArray=cs.toArray:=by
 obtain ⟨h1,h2⟩:=h
 have h1':cs.length=xs.length*4:=h1
 apply Array.ext_getElem?
 intro t
 by_cases ht:t<xs.length*4
 ·obtain ⟨j,q,hq,rfl⟩ : ∃ j q,q<4∧t=j*4+q:=⟨t / 4,t % 4,by omega,by omega⟩
  have hj:j<xs.length:=by omega
  rw [get_flat4C xs j hj q hq]
  have h3:=k41_openM (h2 j xs[j] (List.getElem?_eq_getElem hj))
  have h4:(cs.drop (j*4)).take 4=enc4C xs[j]:=h3
  rw [← h4,List.getElem?_take_of_lt hq,List.getElem?_drop]
  simp
 ·rw [Array.getElem?_eq_none (by simp;omega),Array.getElem?_eq_none (by simp;omega)]
theorem reps_flat4C {w:World} {base:Nat} {ok:Nat→Prop} (xs:List S41):Reps (k41.M w base ok) k41.sz xs (Go.Sort.flatK enc4C 4 xs.toArray).toList:=by
 refine ⟨by simp;rfl,fun j p hj=>?_⟩
 obtain ⟨hx,rfl⟩:=List.getElem?_eq_some_iff.1 hj
 have h:(((Go.Sort.flatK enc4C 4 xs.toArray).toList.drop (j*4)).take 4)=enc4C xs[j]:=by
  apply List.ext_getElem?
  intro q
  by_cases hq:q<4
  ·rw [List.getElem?_take_of_lt hq,List.getElem?_drop,Array.getElem?_toList,get_flat4C xs j hx q hq]
  ·rw [List.getElem?_take_eq_none (by omega),List.getElem?_eq_none (by simp [enc4C];omega)]
 show k41.M w base ok xs[j] (((Go.Sort.flatK enc4C 4 xs.toArray).toList.drop (j*4)).take 4)
 rw [h]
 exact k41_mkM w base ok xs[j]
theorem cmpC_lays (blk off size:Nat) (w:World):CmpLays Try.prog 22 #[] enc4C 4 cmpC blk off size w:=fun m os dk _ x y =>
 (cmpC_grows x y _).mono fun e w' ⟨he,hb,hd⟩=>⟨he,grow_of_belowX hb hd⟩
def RiseC (r:List S41):Prop:=r.Pairwise fun x y=>¬ cmpC y x<0
theorem cmpI_lt (x y:Int):cmpI x y<0↔x<y:=by unfold cmpI;(repeat' split) <;> omega
theorem cmpI_eq (x y:Int):cmpI x y=0↔x=y:=by unfold cmpI;(repeat' split) <;> omega
theorem cmpC_swo:Go.Sort.SWO (ltOf cmpC):=by
 refine ⟨fun x=>?_,fun x y z h1 h2=>?_,fun x y z h1 h2=>?_⟩ <;> simp only [ltOf,decide_eq_true_eq,decide_eq_false_iff_not,cmpC,cmpI_lt] at * <;> omega
theorem sorted4C {l0 r:List S41} (hP:Go.Sort.PermIn 0 l0.toArray.size l0.toArray r.toArray) (hS:Go.Sort.SortedIn (ltOf cmpC) 0 l0.toArray.size r.toArray):r.Perm l0∧RiseC r:=by
 obtain ⟨h1,_,h2⟩:=hP
 have hn:r.length=l0.length:=by simpa using h1
 refine ⟨?_,?_⟩
 ·have e1:(r.toArray.extract 0 l0.toArray.size).toList=r:=by simp [← hn]
  have e2:(l0.toArray.extract 0 l0.toArray.size).toList=l0:=by simp
  rwa [e1,e2] at h2
 ·unfold RiseC
  rw [List.pairwise_iff_getElem]
  intro i j hi hj hij
  have h:=hS i j (Nat.zero_le _) hij (by simpa [← hn] using hj)
  have ei:r.toArray[i]! = r[i]:=by simp [hi]
  have ej:r.toArray[j]! = r[j]:=by simp [hj]
  rw [ei,ej] at h
  simpa only [ltOf,decide_eq_false_iff_not] using h
set_option maxHeartbeats 4000000 in
theorem sortNilC (w:World):Calls Try.prog 59 #[.slice none 0 0,.func (.func 22) #[] #[]] w fun e w'=>e = .returned (.tuple #[])∧w'=w:=by
 have hi : ∀ V,Calls Try.prog 79 #[.slice none 0 0,.int .i64 0,.int .i64 0,.func (.func 22) #[] #[]] V fun e w'=>e = .returned (.tuple #[])∧w'=V:=by
  intro V
  go_enter Try.func79,Try.ntmps79
  go_wp2
  refine wp_loop_rounds 1 ?_
  rw [rounds_succ]
  go_wp2
  go_end0
  exact ⟨rfl,rfl⟩
 have hs : ∀ V,Calls Try.prog 74 #[.slice none 0 0,.int .i64 0,.func (.func 22) #[] #[]] V fun e w'=>e = .returned (.tuple #[])∧w'=V:=by
  intro V
  have HI:=aK hi
  clear hi
  go_enter Try.func74,Try.ntmps74
  go_wp2
  refine wp_loop_rounds 1 ?_
  rw [rounds_succ]
  go_wp2_with fail
  refine (HI.out _).mono ?_
  rintro e w1 ⟨rfl,rfl⟩
  go_wp2
  refine wp_loop_rounds 1 ?_
  rw [rounds_succ]
  go_wp2
  go_end0
  exact ⟨rfl,rfl⟩
 clear hi
 go_enter Try.func59,Try.ntmps59
 go_wp2_with fail
 refine (hs _).mono ?_
 rintro e w1 ⟨rfl,rfl⟩
 go_wp2
 go_end0
 exact ⟨rfl,rfl⟩
theorem api_CharMetric_59.calls (P0_ : Nat → Prop) (u9000_ : Value) (l0 : List S41) (w0 w : World) (hB : Below w0.heap.size w0 w) (ho0 : Kd.R k41 41 w w0.heap.size P0_ u9000_ l0) (hl : l0.length < 1152921504606846976) :
  Calls Try.prog 59 #[u9000_,.func (.func 22) #[] #[]] w fun e w'=>e = .returned (.tuple #[])∧∃ r,r.Perm l0∧RiseC r∧Kd.R k41 41 w' w0.heap.size (fun k_=>(P0_ k_∨w.heap.size≤k_)) u9000_ r∧Below w0.heap.size w0 w'∧Kept w w' (fun k_=>P0_ k_):=by
 obtain ⟨h0,inner,ho,hr⟩:=ho0
 have hi:=cells_flat4C hr
 rcases ho.2 with ⟨rfl,hn⟩|⟨g,cap,cur,rfl,hbase,hh,hle,hcap,hsz,htk⟩
 ·have hl0:l0=[]:=List.length_eq_zero_iff.mp hn
  subst hl0
  refine (sortNilC w).mono ?_
  rintro e w' ⟨rfl,rfl⟩
  exact ⟨rfl,[],List.Perm.refl _,List.Pairwise.nil,Kd.R_nil _ _ _ _ _,hB,Kept.refl _ _⟩
 ·have hk2:k41.sz=4:=rfl
  rw [hk2] at hsz htk
  have hin:inner.length=l0.length*4:=hr.1
  have hH:Go.Sort.HoldsK enc4C 4 w g 0 l0.toArray:=by
   unfold Go.Sort.HoldsK
   rw [hi]
   exact holds_row hh (by rw [hin];exact htk)
  have hlt:=lt_of_block hh
  refine (Sym.sortStableC 4 Try.isAgg41 Try.sizeOf41 enc4C cmpC cmpC_swo 22 #[] g 0 cap l0.toArray w (enters_own Try.func22 (by kernel_rfl) rfl) (cmpC_lays _ _ _ _) ⟨fun _=>rfl,fun x v hv=>by simp [enc4C] at hv;rcases hv with rfl|rfl|rfl|rfl <;> rfl,hH,hlt⟩ (by simpa using hl)).mono ?_
  rintro e w' ⟨rfl,d,hP,hS,⟨n,os,rfl⟩⟩
  obtain ⟨r,rfl⟩ : ∃ r:List S41,d=r.toArray:=⟨d.toList,by simp⟩
  obtain ⟨hperm,hrise⟩:=sorted4C hP hS
  have hlen:r.length=l0.length:=hperm.length_eq
  unfold sortWorldK Go.Sort.putRowK
  have hF:(Go.Sort.flatK enc4C 4 r.toArray).size=l0.length*4:=by simp [hlen]
  have hg0:w.grownBy (Go.Sort.putRow id (Go.Sort.ahead w n) g 0 (Go.Sort.flatK enc4C 4 r.toArray)) (some g):=grownBy_row _
  have hgw : ∀ (V:World),V.grownBy (Go.Sort.grow V os) none:=fun V=>⟨rfl,rfl,rfl,by simp [Go.Sort.grow],fun k hk _=>by simp [Go.Sort.grow,Array.getElem?_append,hk]⟩
  have hg:w.grownBy (Go.Sort.grow (Go.Sort.putRow id (Go.Sort.ahead w n) g 0 (Go.Sort.flatK enc4C 4 r.toArray)) os) (some g):=by
   have h2:=hgw (Go.Sort.putRow id (Go.Sort.ahead w n) g 0 (Go.Sort.flatK enc4C 4 r.toArray))
   exact ⟨h2.os.trans hg0.os,h2.tape.trans hg0.tape,h2.output.trans hg0.output,Nat.le_trans hg0.size h2.size,fun k hk hne=>(h2.block k (Nat.lt_of_lt_of_le hk hg0.size) (by simp)).trans (hg0.block k hk hne)⟩
  have hok:P0_ g:=h0 g (by simp [Value.ownBlock])
  refine ⟨rfl,r,hperm,hrise,?_,?_,?_⟩
  ·refine ⟨fun k hk=>Or.inl (h0 k hk),(Go.Sort.flatK enc4C 4 r.toArray).toList,?_,reps_flat4C r⟩
   have hb2:(Go.Sort.grow (Go.Sort.putRow id (Go.Sort.ahead w n) g 0 (Go.Sort.flatK enc4C 4 r.toArray)) os).heap[g]?=some (.cells (Go.Sort.putCells id 0 (Go.Sort.flatK enc4C 4 r.toArray) cur) 41 (0,0)):=by
    have h2:=(hgw (Go.Sort.putRow id (Go.Sort.ahead w n) g 0 (Go.Sort.flatK enc4C 4 r.toArray))).block g (Nat.lt_of_lt_of_le hlt hg0.size) (by simp)
    rw [h2]
    exact heap_row _ hh
   refine ⟨by rw [hk2,Array.length_toList,hF,hlen],.inr ⟨g,cap,_,by rw [hlen],hbase,hb2,by omega,hcap,by rw [hk2];simp [Go.Sort.putCells,hsz],?_⟩⟩
   have:=take_row cur (Go.Sort.flatK enc4C 4 r.toArray) (by rw [hF,hsz];omega)
   rw [hk2,hlen]
   rw [hF] at this
   exact this
  ·exact hB.grown hg hB.size (fun k hk=>by injection hk with hk;omega)
  ·exact Kept.of_grown hg (Kept.refl w _) (fun k hk=>by injection hk with hk;subst hk;exact Or.inl hok)
instance inst4R:Inhabited S46:=⟨z46⟩
def enc4R (x:S46):List Value:=[.int .i64 x.f0,.int .i64 x.f1,.int .i64 x.f2,.int .i64 x.f3]
theorem get_flat4R (xs:List S46) (j:Nat) (hj:j<xs.length) (q:Nat) (hq:q<4):(Go.Sort.flatK enc4R 4 xs.toArray)[j*4+q]?=(enc4R xs[j])[q]?:=by
 have h1:j*4+q<xs.length*4:=by omega
 have h2:(j*4+q) / 4=j:=by omega
 have h3:(j*4+q) % 4=q:=by omega
 have h4:=Go.Sort.get_flatK enc4R 4 xs.toArray (j*4+q) (by simpa using h1)
 rw [h2,h3] at h4
 have h5:j*4+q<(Go.Sort.flatK enc4R 4 xs.toArray).size:=by simpa using h1
 have h6:xs.toArray[j]! = xs[j]:=by simp [hj]
 rw [h6,getElem!_pos (Go.Sort.flatK enc4R 4 xs.toArray) (j*4+q) h5] at h4
 rw [Array.getElem?_eq_getElem h5,h4]
 have h7:q<(enc4R xs[j]).length:=hq
 rw [getElem!_pos (enc4R xs[j]) q h7,List.getElem?_eq_getElem h7]
theorem cells_flat4R {w:World} {base:Nat} {ok:Nat→Prop} {xs:List S46} {cs:List Value} (h:Reps (k46.M w base ok) k46.sz xs cs):Go.Sort.flatK enc4R 4 xs.toArray=cs.toArray:=by
 obtain ⟨h1,h2⟩:=h
 have h1':cs.length=xs.length*4:=h1
 apply Array.ext_getElem?
 intro t
 by_cases ht:t<xs.length*4
 ·obtain ⟨j,q,hq,rfl⟩ : ∃ j q,q<4∧t=j*4+q:=⟨t / 4,t % 4,by omega,by omega⟩
  have hj:j<xs.length:=by omega
  rw [get_flat4R xs j hj q hq]
  have h3:=k46_openM (h2 j xs[j] (List.getElem?_eq_getElem hj))
  have h4:(cs.drop (j*4)).take 4=enc4R xs[j]:=h3
  rw [← h4,List.getElem?_take_of_lt hq,List.getElem?_drop]
  simp
 ·rw [Array.getElem?_eq_none (by simp;omega),Array.getElem?_eq_none (by simp;omega)]
theorem reps_flat4R {w:World} {base:Nat} {ok:Nat→Prop} (xs:List S46):Reps (k46.M w base ok) k46.sz xs (Go.Sort.flatK enc4R 4 xs.toArray).toList:=by
 refine ⟨by simp;rfl,fun j p hj=>?_⟩
 obtain ⟨hx,rfl⟩:=List.getElem?_eq_some_iff.1 hj
 have h:(((Go.Sort.flatK enc4R 4 xs.toArray).toList.drop (j*4)).take 4)=enc4R xs[j]:=by
  apply List.ext_getElem?
  intro q
  by_cases hq:q<4
  ·rw [List.getElem?_take_of_lt hq,List.getElem?_drop,Array.getElem?_toList,get_flat4R xs j hx q hq]
  ·rw [List.getElem?_take_eq_none (by omega),List.getElem?_eq_none (by simp [enc4R];omega)]
 show k46.M w base ok xs[j] (((Go.Sort.flatK enc4R 4 xs.toArray).toList.drop (j*4)).take 4)
 rw [h]
 exact k46_mkM w base ok xs[j]
theorem cmpR_lays (blk off size:Nat) (w:World):CmpLays Try.prog 35 #[] enc4R 4 cmpR blk off size w:=fun m os dk _ x y =>
 (cmpR_grows x y _).mono fun e w' ⟨he,hb,hd⟩=>⟨he,grow_of_belowX hb hd⟩
def RiseR (r:List S46):Prop:=r.Pairwise fun x y=>¬ cmpR y x<0
theorem cmpR_lt (x y:S46):cmpR x y<0↔x.f0<y.f0∨(x.f0=y.f0∧x.f1<y.f1):=by
 unfold cmpR
 by_cases h:cmpI x.f0 y.f0=0
 ·rw [if_pos h,cmpI_lt];rw [cmpI_eq] at h;omega
 ·rw [if_neg h,cmpI_lt];rw [cmpI_eq] at h;omega
theorem cmpR_swo:Go.Sort.SWO (ltOf cmpR):=by
 refine ⟨fun x=>?_,fun x y z h1 h2=>?_,fun x y z h1 h2=>?_⟩ <;> simp only [ltOf,decide_eq_true_eq,decide_eq_false_iff_not,cmpR_lt] at * <;> omega
theorem sorted4R {l0 r:List S46} (hP:Go.Sort.PermIn 0 l0.toArray.size l0.toArray r.toArray) (hS:Go.Sort.SortedIn (ltOf cmpR) 0 l0.toArray.size r.toArray):r.Perm l0∧RiseR r:=by
 obtain ⟨h1,_,h2⟩:=hP
 have hn:r.length=l0.length:=by simpa using h1
 refine ⟨?_,?_⟩
 ·have e1:(r.toArray.extract 0 l0.toArray.size).toList=r:=by simp [← hn]
  have e2:(l0.toArray.extract 0 l0.toArray.size).toList=l0:=by simp
  rwa [e1,e2] at h2
 ·unfold RiseR
  rw [List.pairwise_iff_getElem]
  intro i j hi hj hij
  have h:=hS i j (Nat.zero_le _) hij (by simpa [← hn] using hj)
  have ei:r.toArray[i]! = r[i]:=by simp [hi]
  have ej:r.toArray[j]! = r[j]:=by simp [hj]
  rw [ei,ej] at h
  simpa only [ltOf,decide_eq_false_iff_not] using h
set_option maxHeartbeats 4000000 in
theorem sortNilR (w:World):Calls Try.prog 60 #[.slice none 0 0,.func (.func 35) #[] #[]] w fun e w'=>e = .returned (.tuple #[])∧w'=w:=by
 have hi : ∀ V,Calls Try.prog 81 #[.slice none 0 0,.int .i64 0,.int .i64 0,.func (.func 35) #[] #[]] V fun e w'=>e = .returned (.tuple #[])∧w'=V:=by
  intro V
  go_enter Try.func81,Try.ntmps81
  go_wp2
  refine wp_loop_rounds 1 ?_
  rw [rounds_succ]
  go_wp2
  go_end0
  exact ⟨rfl,rfl⟩
 have hs : ∀ V,Calls Try.prog 75 #[.slice none 0 0,.int .i64 0,.func (.func 35) #[] #[]] V fun e w'=>e = .returned (.tuple #[])∧w'=V:=by
  intro V
  have HI:=aK hi
  clear hi
  go_enter Try.func75,Try.ntmps75
  go_wp2
  refine wp_loop_rounds 1 ?_
  rw [rounds_succ]
  go_wp2_with fail
  refine (HI.out _).mono ?_
  rintro e w1 ⟨rfl,rfl⟩
  go_wp2
  refine wp_loop_rounds 1 ?_
  rw [rounds_succ]
  go_wp2
  go_end0
  exact ⟨rfl,rfl⟩
 clear hi
 go_enter Try.func60,Try.ntmps60
 go_wp2_with fail
 refine (hs _).mono ?_
 rintro e w1 ⟨rfl,rfl⟩
 go_wp2
 go_end0
 exact ⟨rfl,rfl⟩
theorem api_LigRule_60.calls (P0_ : Nat → Prop) (u9000_ : Value) (l0 : List S46) (w0 w : World) (hB : Below w0.heap.size w0 w) (ho0 : Kd.R k46 46 w w0.heap.size P0_ u9000_ l0) (hl : l0.length < 1152921504606846976) :
  Calls Try.prog 60 #[u9000_,.func (.func 35) #[] #[]] w fun e w'=>e = .returned (.tuple #[])∧∃ r,r.Perm l0∧RiseR r∧Kd.R k46 46 w' w0.heap.size (fun k_=>(P0_ k_∨w.heap.size≤k_)) u9000_ r∧Below w0.heap.size w0 w'∧Kept w w' (fun k_=>P0_ k_):=by
 obtain ⟨h0,inner,ho,hr⟩:=ho0
 have hi:=cells_flat4R hr
 rcases ho.2 with ⟨rfl,hn⟩|⟨g,cap,cur,rfl,hbase,hh,hle,hcap,hsz,htk⟩
 ·have hl0:l0=[]:=List.length_eq_zero_iff.mp hn
  subst hl0
  refine (sortNilR w).mono ?_
  rintro e w' ⟨rfl,rfl⟩
  exact ⟨rfl,[],List.Perm.refl _,List.Pairwise.nil,Kd.R_nil _ _ _ _ _,hB,Kept.refl _ _⟩
 ·have hk2:k46.sz=4:=rfl
  rw [hk2] at hsz htk
  have hin:inner.length=l0.length*4:=hr.1
  have hH:Go.Sort.HoldsK enc4R 4 w g 0 l0.toArray:=by
   unfold Go.Sort.HoldsK
   rw [hi]
   exact holds_row hh (by rw [hin];exact htk)
  have hlt:=lt_of_block hh
  refine (Sym.sortStableR 4 Try.isAgg46 Try.sizeOf46 enc4R cmpR cmpR_swo 35 #[] g 0 cap l0.toArray w (enters_own Try.func35 (by kernel_rfl) rfl) (cmpR_lays _ _ _ _) ⟨fun _=>rfl,fun x v hv=>by simp [enc4R] at hv;rcases hv with rfl|rfl|rfl|rfl <;> rfl,hH,hlt⟩ (by simpa using hl)).mono ?_
  rintro e w' ⟨rfl,d,hP,hS,⟨n,os,rfl⟩⟩
  obtain ⟨r,rfl⟩ : ∃ r:List S46,d=r.toArray:=⟨d.toList,by simp⟩
  obtain ⟨hperm,hrise⟩:=sorted4R hP hS
  have hlen:r.length=l0.length:=hperm.length_eq
  unfold sortWorldK Go.Sort.putRowK
  have hF:(Go.Sort.flatK enc4R 4 r.toArray).size=l0.length*4:=by simp [hlen]
  have hg0:w.grownBy (Go.Sort.putRow id (Go.Sort.ahead w n) g 0 (Go.Sort.flatK enc4R 4 r.toArray)) (some g):=grownBy_row _
  have hgw : ∀ (V:World),V.grownBy (Go.Sort.grow V os) none:=fun V=>⟨rfl,rfl,rfl,by simp [Go.Sort.grow],fun k hk _=>by simp [Go.Sort.grow,Array.getElem?_append,hk]⟩
  have hg:w.grownBy (Go.Sort.grow (Go.Sort.putRow id (Go.Sort.ahead w n) g 0 (Go.Sort.flatK enc4R 4 r.toArray)) os) (some g):=by
   have h2:=hgw (Go.Sort.putRow id (Go.Sort.ahead w n) g 0 (Go.Sort.flatK enc4R 4 r.toArray))
   exact ⟨h2.os.trans hg0.os,h2.tape.trans hg0.tape,h2.output.trans hg0.output,Nat.le_trans hg0.size h2.size,fun k hk hne=>(h2.block k (Nat.lt_of_lt_of_le hk hg0.size) (by simp)).trans (hg0.block k hk hne)⟩
  have hok:P0_ g:=h0 g (by simp [Value.ownBlock])
  refine ⟨rfl,r,hperm,hrise,?_,?_,?_⟩
  ·refine ⟨fun k hk=>Or.inl (h0 k hk),(Go.Sort.flatK enc4R 4 r.toArray).toList,?_,reps_flat4R r⟩
   have hb2:(Go.Sort.grow (Go.Sort.putRow id (Go.Sort.ahead w n) g 0 (Go.Sort.flatK enc4R 4 r.toArray)) os).heap[g]?=some (.cells (Go.Sort.putCells id 0 (Go.Sort.flatK enc4R 4 r.toArray) cur) 46 (0,0)):=by
    have h2:=(hgw (Go.Sort.putRow id (Go.Sort.ahead w n) g 0 (Go.Sort.flatK enc4R 4 r.toArray))).block g (Nat.lt_of_lt_of_le hlt hg0.size) (by simp)
    rw [h2]
    exact heap_row _ hh
   refine ⟨by rw [hk2,Array.length_toList,hF,hlen],.inr ⟨g,cap,_,by rw [hlen],hbase,hb2,by omega,hcap,by rw [hk2];simp [Go.Sort.putCells,hsz],?_⟩⟩
   have:=take_row cur (Go.Sort.flatK enc4R 4 r.toArray) (by rw [hF,hsz];omega)
   rw [hk2,hlen]
   rw [hF] at this
   exact this
  ·exact hB.grown hg hB.size (fun k hk=>by injection hk with hk;omega)
  ·exact Kept.of_grown hg (Kept.refl w _) (fun k hk=>by injection hk with hk;subst hk;exact Or.inl hok)
theorem row_keptT {α:Type} {d:Kd α} {e t base:Nat} {ok:Nat→Prop} {v:Value} {xs:List α} {W W2:World} (h:d.R e W base ok v xs) (hk:Kept W W2 (fun k=>∃ cells,W.heap[k]?=some (.cells cells t (0,0)))) (h1 : ∀ q,q∈e::d.E→q≠t):d.R e W2 base ok v xs:=by
 refine Kd.R_mono (Kd.R_kept (Kd.R_bound h) hk (fun k hk2=>?_)) (fun _ h=>h.1)
 rintro ⟨cells2,h2⟩
 obtain ⟨_,_,_,q,hq,cells,hc⟩:=hk2
 rw [hc] at h2
 injection h2 with h2
 injection h2 with _ h2
 exact h1 q hq h2
theorem blk_keptT {t t' g:Nat} {cs:Array Value} {W W2:World} (hb:W.heap[g]?=some (.cells cs t' (0,0))) (hk:Kept W W2 (fun k=>∃ cells,W.heap[k]?=some (.cells cells t (0,0)))) (hne:t'≠t):W2.heap[g]?=some (.cells cs t' (0,0)):=by
 refine blk_kept hb hk ?_
 rintro ⟨cells2,h2⟩
 rw [hb] at h2
 injection h2 with h2
 injection h2 with _ h2
 exact hne h2
theorem row_typed {α:Type} {d:Kd α} {e base:Nat} {ok:Nat→Prop} {v:Value} {xs:List α} {W:World} (h:d.R e W base ok v xs) (h1 : ∀ q,q∈e::d.E→q=e):d.R e W base (fun k=>∃ cells,W.heap[k]?=some (.cells cells e (0,0))) v xs:=by
 refine Kd.R_mono (Kd.R_bound h) (fun k hk=>?_)
 obtain ⟨_,_,_,q,hq,cells,hc⟩:=hk
 rw [h1 q hq] at hc
 exact ⟨cells,hc⟩
set_option maxHeartbeats 8000000 in
theorem made_calls (sz : Int) (A1 : Option Addr) (c1 : Nat) (cs : List S41) (A2 : Option Addr) (c2 : Nat) (rs : List S46) (w : World)
  (hr1:Kd.C k41 w A1 cs.length cs) (hc1:cs.length≤c1) (hr2:Kd.C k46 w A2 rs.length rs) (hc2:rs.length≤c2) (hl1:cs.length≤1000000) (hl2:rs.length≤1000000) :
  Calls Try.prog 30 #[.int .i64 sz,.slice A1 cs.length c1,.slice A2 rs.length c2] w fun e w'=>∃ v1 v2 cs' rs',e = .returned (.agg #[.int .i64 sz,v1,v2])∧(cs'.Perm cs∧RiseC cs')∧(rs'.Perm rs∧RiseR rs')∧Kd.R k41 41 w' w.heap.size (fun _=>True) v1 cs'∧Kd.R k46 46 w' w.heap.size (fun _=>True) v2 rs'∧Below w.heap.size w w':=by
 have hu:=Try.underlying25
 have HR1:=aK hr1
 have HR2:=aK hr2
 have HC1:=aK hc1
 have HC2:=aK hc2
 have HL1:=aK hl1
 have HL2:=aK hl2
 have B0:=aK (below_alloc (Below.refl w.heap.size w) (.cells #[.int .i64 0,.slice none 0 0,.slice none 0 0] 25))
 have Q0:=aK (blk_new w (.cells #[.int .i64 0,.slice none 0 0,.slice none 0 0] 25))
 clear hr1 hr2 hc1 hc2 hl1 hl2
 go_enter Try.func30,Try.ntmps30
 go_wp2_with fail
 refine (api_CharMetric_39.calls A1 c1 cs cs _ (Kd.C_below HR1.out B0.out) HC1.out (by unfold api_CharMetric_39.f;rw [if_pos (by have:=HL1.out;omega)])).mono ?_
 rintro e W1 ⟨v1,rfl,ho1,hb1⟩
 obtain ⟨A3,c3,rfl⟩:=Kd.R_slice ho1
 have O1:=aK (Kd.R_lower ho1 B0.out.size)
 have B1:=aK (below_step B0.out hb1)
 have Q1:=aK (blk_below Q0.out hb1)
 clear ho1 hb1 B0 Q0
 go_wp2_with fail
 refine (api_LigRule_40.calls A2 c2 rs rs W1 (Kd.C_below HR2.out B1.out) HC2.out (by unfold api_LigRule_40.f;rw [if_pos (by have:=HL2.out;omega)])).mono ?_
 rintro e W2 ⟨v2,rfl,ho2,hb2⟩
 obtain ⟨A4,c4,rfl⟩:=Kd.R_slice ho2
 have O3:=aK (Kd.R_alloc (Kd.R_below O1.out hb2) (.cells #[.int .i64 sz,.slice A3 cs.length c3,.slice A4 rs.length c4] 25))
 have O4:=aK (Kd.R_alloc (Kd.R_lower ho2 B1.out.size) (.cells #[.int .i64 sz,.slice A3 cs.length c3,.slice A4 rs.length c4] 25))
 have B3:=aK (below_alloc (below_step B1.out hb2) (.cells #[.int .i64 sz,.slice A3 cs.length c3,.slice A4 rs.length c4] 25))
 have Q3:=aK (blk_alloc (blk_below Q1.out hb2) (.cells #[.int .i64 sz,.slice A3 cs.length c3,.slice A4 rs.length c4] 25))
 have X3:=aK (blk_new W2 (.cells #[.int .i64 sz,.slice A3 cs.length c3,.slice A4 rs.length c4] 25))
 have HNE:Aside0 (w.heap.size≠W2.heap.size):=⟨Nat.ne_of_lt (Nat.lt_of_lt_of_le (blk_lt Q1.out) hb2.size)⟩
 clear ho2 hb2 B1 Q1 O1
 go_upto_region 2 with (fail)
 obtain ⟨b7,hb7⟩ : ∃ b7,b7=W2.heap.size:=⟨_,rfl⟩
 rw [← hb7] at X3 HNE ⊢
 generalize W2.alloc (.cells #[.int .i64 sz,.slice A3 cs.length c3,.slice A4 rs.length c4] 25)=W3 at *
 clear hb7
 have p1:=(blk_cell X3.out 1).trans rfl
 go_wp2_with fail
 refine (api_CharMetric_59.calls _ _ cs w W3 B3.out (row_typed O3.out opq50) (by have:=HL1.out;omega)).mono ?_
 clear p1
 rintro e W4 ⟨rfl,cs',hp,hrise,ho4,hb4,hk4⟩
 have hlen:cs'.length=cs.length:=hp.length_eq
 rw [← hlen] at ho4
 have O5:=aK (Kd.R_mono ho4 (fun _ _=>trivial):Kd.R k41 41 W4 w.heap.size (fun _=>True) (.slice A3 cs'.length c3) cs')
 have O6:=aK (row_keptT O4.out hk4 (fun q hq=>by rw [opq45 q hq];decide))
 have X4:=aK (blk_keptT X3.out hk4 (by decide))
 have Q4:=aK (blk_keptT Q3.out hk4 (by decide))
 have B4:=aK hb4
 have HPC:=aK (And.intro hp hrise)
 have X4:=X4.out
 rw [← hlen] at X4
 have X5:=aK X4
 clear ho4 hb4 hk4 hp hrise hlen X3 Q3 B3 O3 O4 X4
 have p1:=(blk_cell X5.out 2).trans rfl
 go_wp2_with fail
 refine (api_LigRule_60.calls _ _ rs w W4 B4.out (row_typed O6.out opq45) (by have:=HL2.out;omega)).mono ?_
 clear p1
 rintro e W6 ⟨rfl,rs',hp,hrise,ho6,hb6,hk6⟩
 have hlen:rs'.length=rs.length:=hp.length_eq
 rw [← hlen] at ho6
 have O8:=aK (Kd.R_mono ho6 (fun _ _=>trivial):Kd.R k46 46 W6 w.heap.size (fun _=>True) (.slice A4 rs'.length c4) rs')
 have O7:=aK (row_keptT O5.out hk6 (fun q hq=>by rw [opq50 q hq];decide))
 have X6:=blk_keptT X5.out hk6 (by decide)
 have Q6:=aK (blk_keptT Q4.out hk6 (by decide))
 have B6:=aK hb6
 have HPR:=aK (And.intro hp hrise)
 rw [← hlen] at X6
 have g0:=(blk_cell X6 0).trans rfl
 have g1:=(blk_cell X6 1).trans rfl
 have g2:=(blk_cell X6 2).trans rfl
 have q0:=blk_frozen Q6.out 0
 have q1:=blk_frozen Q6.out 1
 have q2:=blk_frozen Q6.out 2
 have q3:=(blk_cell Q6.out 0).trans rfl
 have q4:=(blk_cell Q6.out 1).trans rfl
 have q5:=(blk_cell Q6.out 2).trans rfl
 clear ho6 hb6 hk6 hp hrise hlen X5 Q4 B4 O5 O6 X6
 have Y1:=aK (blk_put Q6.out 0 (.int .i64 sz) rfl)
 have Y2:=aK (blk_put Y1.out 1 (.slice A3 cs'.length c3) rfl)
 have Y3:=aK (blk_put Y2.out 2 (.slice A4 rs'.length c4) rfl)
 go_wp2
 refine bodyPost_ret (results_cell_row rfl _ _ w.heap.size 25 #[.int .i64 sz,.slice A3 cs'.length c3,.slice A4 rs'.length c4] (0,0) _ rfl Y3.out Try.underlying25 rfl (by kernel_rfl)) rfl ?_
 exact ⟨.slice A3 cs'.length c3, .slice A4 rs'.length c4, cs', rs', rfl, HPC.out, HPR.out,
  Kd.R_set (Kd.R_set (Kd.R_set O7.out Q6.out (fun q hq=>by rw [opq50 q hq];decide) 0 _) Y1.out (fun q hq=>by rw [opq50 q hq];decide) 1 _) Y2.out (fun q hq=>by rw [opq50 q hq];decide) 2 _,
  Kd.R_set (Kd.R_set (Kd.R_set O8.out Q6.out (fun q hq=>by rw [opq45 q hq];decide) 0 _) Y1.out (fun q hq=>by rw [opq45 q hq];decide) 1 _) Y2.out (fun q hq=>by rw [opq45 q hq];decide) 2 _,
  below_set (below_set (below_set B6.out (Nat.le_refl _)) (Nat.le_refl _)) (Nat.le_refl _)⟩
set_option maxHeartbeats 4000000 in
theorem grow4C_calls (n : Int) (w : World) (hn0 : 0 ≤ n) (hn : n < 4398046511104) :
  Calls Try.prog 61 #[.slice none 0 0,.int .i64 n] w fun e w'=>∃ v0_:Value,e = .returned (v0_)∧Kd.R k41 41 w' w.heap.size (fun _=>True) v0_ []∧Below w.heap.size w w':=by
 obtain ⟨i0,hi0,_,hsz,_⟩:=info_parts info41
 have hcut0:=cut_to (P:=Try.prog) 22 41 .i64 Try.underlying22 hi0 none 0 0 0 (by omega) (by omega) (by omega)
 have hcut1:=fun (A:Option Addr) (m c:Nat) (h:m≤c)=>cut_to (P:=Try.prog) 22 41 .i64 Try.underlying22 hi0 A m c 0 (by omega) (by omega) h
 have hq:decide (n<0)=false:=decide_eq_false (by omega)
 have hw:wrap64 n=n:=by unfold wrap64;omega
 have HN:=aK (show 0≤n∧n<4398046511104 from ⟨hn0,hn⟩)
 by_cases h0:n=0
 ·subst h0
  go_enter Try.func61,Try.ntmps61
  go_wp2
  go_ret
  exact ⟨_,rfl,Kd.R_nil _ _ _ _ _,Below.refl _ _⟩
 ·have hp:decide (0<n)=true:=decide_eq_true (by omega)
  have HC:=aK hcut1
  have HW:=aK hw
  clear hcut1 hn hn0 h0
  go_enter Try.func61,Try.ntmps61
  go_wp2_with ((with_reducible refine gate_builtin (b:=.append) (xs:=#[.tmp 20,.tmp 21]) rfl ?_);at_builtin;refine Kd.R_append_zeros k41 (w0:=w) w.heap.size rfl (.tmp 20) (.tmp 21) 22 3 41 (.agg #[(.int .i64 0),(.int .i64 0),(.int .i64 0),(.int .i64 0)]) 32 rfl Try.underlying22 Try.underlying3 info41 rfl (by decide) (by omega) (.slice none 0 0) [] z41 (wrap64 n) (fun _=>True) rfl rfl ?aZ (fun _ _=>trivial) ?aO (by rw [HW.out];exact HN.out.1) ?aB ?aS ?aL ?_;(case aZ=>exact k41_mkM _ _ _ z41);(case aO=>exact Kd.R_nil _ _ _ _ _);(case aB=>first|exact Below.refl _ _|exact below_drew1 (Below.refl _ _));(case aS=>simp);(case aL=>have:=HN.out;rw [HW.out];simp only [List.length_nil];omega);intro v1 w1 ho hb hg hat;obtain ⟨A1,c1,rfl⟩:=Kd.R_slice ho;have hc:=HC.out A1 _ c1 (Kd.R_reads' ho).2.1;have HO:=aK ho;have HB:=aK hb;clear ho hb hg hat HC)
  go_ret
  exact ⟨_,rfl,Kd.R_take HO.out (Nat.zero_le _),HB.out⟩
theorem take_nextC (l0:List (List S41)) (kk:Nat) (h:kk<l0.length):(l0.take (kk+1)).flatten=(l0.take kk).flatten++rd_L2 l0 (kk:Int):=by
 rw [List.take_add_one,List.flatten_append]
 congr 1
 rw [List.getElem?_eq_getElem h]
 simp [rd_L2,h]
theorem take_flatC (l0:List (List S41)) (kk:Nat):(l0.take kk).flatten.length≤l0.flatten.length:=by
 conv=>rhs;rw [← List.take_append_drop kk l0,List.flatten_append,List.length_append]
 omega
def api_CharMetric_31.f (l0:List (List S41)):Option (List S41):=if l0.length<4398046511104∧l0.flatten.length<4398046511104 then some l0.flatten else none
set_option maxHeartbeats 4000000 in
theorem api_CharMetric_31.calls (A0 : Option Addr) (c0 : Nat) (l0 : List (List S41)) (r : List S41) (w : World) (hr0 : Kd.C (Kd.slice 41 k41) w A0 l0.length l0) (hc0 : l0.length ≤ c0) (h : api_CharMetric_31.f l0 = some r) :
  Calls Try.prog 31 #[.slice A0 l0.length c0] w fun e w'=>∃ v0_:Value,e = .returned (v0_)∧Kd.R k41 41 w' w.heap.size (fun _=>True) v0_ r∧Below w.heap.size w w':=by
 unfold api_CharMetric_31.f at h
 by_cases hl:l0.length<4398046511104∧l0.flatten.length<4398046511104
 ·rw [if_pos hl] at h
  obtain rfl:l0.flatten=r:=Option.some.inj h
  have HR0:=aK hr0
  have HL:=aK hl
  have HB0:=aK (Below.refl w.heap.size w)
  clear hr0 h hl hc0
  go_enter Try.func31,Try.ntmps31
  go_wp2
  go_loopg [3,5,11] l0.length (fun gg s3 s5 s11 wr=>∃ (kk:Nat) (sz:Int),kk≤l0.length∧l0.length-kk≤gg∧s3 = .int .i64 sz∧s11 = .int .i64 kk∧Aside0 (sz=((l0.take kk).flatten.length:Int))∧Aside0 (Below w.heap.size w wr))
  case atStart=>exact ⟨0,0,Nat.zero_le _,by omega,rfl,rfl,⟨by simp⟩,⟨by first|exact HB0.out|exact below_drew1 HB0.out⟩⟩
  case round =>
   obtain ⟨kk,sz,hkk,hg,rfl,rfl,HS,HB⟩:=hrel
   by_cases hlt:kk<l0.length
   ·have hlti:(kk:Int)<(l0.length:Int):=by omega
    obtain ⟨ad,A1,c1,rfl,hx,hlx,hix⟩:=at_L2 HR0.out (kk:Int) (by omega) hlti
    replace hx:=(HB.out.cell (World.block_lt_of_cell? w _ hx)).trans hx
    simp only [Int.toNat_natCast] at hx
    obtain ⟨sz',hsz'⟩ : ∃ s:Int,s=((l0.take (kk+1)).flatten.length:Int):=⟨_,rfl⟩
    have hn:=take_nextC l0 kk hlt
    have hle:=take_flatC l0 (kk+1)
    have hstep:wrap64 (sz+((rd_L2 l0 (kk:Int)).length:Int))=sz':=by
     rw [hsz',hn,List.length_append,HS.out]
     rw [hn,List.length_append] at hle
     have:=HL.out.2
     unfold wrap64
     omega
    have hneg:decide (sz'<0)=false:=decide_eq_false (by omega)
    have HSZ:=aK hsz'
    generalize rd_L2 l0 (kk:Int)=x at *
    clear hn hle hsz' hix hlx
    go_wp2
    go_roundg (l0.length-(kk+1))
    case measure=>omega
    case rel=>exact ⟨kk+1,sz',by omega,by omega,congrArg (Value.int .i64) hstep,congrArg (Value.int .i64) (show wrap64 ((kk:Int)+1)=((kk+1:Nat):Int) by have:=HL.out.1;unfold wrap64;omega),HSZ,⟨by first|exact HB.out|exact below_drew1 HB.out⟩⟩
   ·have hlti : ¬ (kk:Int)<(l0.length:Int):=by omega
    obtain rfl:kk=l0.length:=by omega
    have hsz0:0≤sz∧sz<4398046511104:=by
     rw [HS.out,List.take_of_length_le (Nat.le_refl _)]
     exact ⟨by omega,by have:=HL.out.2;omega⟩
    go_wp2_with fail
    refine (grow4C_calls sz _ hsz0.1 hsz0.2).mono ?_
    rintro e W2 ⟨v0,rfl,ho,hb⟩
    have HO:=aK (Kd.R_lower ho (below_size (by first|exact HB.out|exact below_drew1 HB.out)))
    have HB2:=aK (below_step (by first|exact HB.out|exact below_drew1 HB.out) hb)
    clear ho hb HB HS hsz0
    obtain ⟨A9,c9,rfl⟩:=Kd.R_slice HO.out
    go_wp2
    go_loopg [6,8,27] l0.length (fun gg s6 s8 s27 wr=>∃ (kk:Nat),kk≤l0.length∧l0.length-kk≤gg∧s27 = .int .i64 kk∧Aside0 (Kd.R k41 41 wr w.heap.size (fun _=>True) s6 (l0.take kk).flatten)∧Aside0 (Below w.heap.size w wr))
    case atStart=>exact ⟨0,Nat.zero_le _,by omega,rfl,⟨by simpa using HO.out⟩,⟨by first|exact HB2.out|exact below_drew1 HB2.out⟩⟩
    case round =>
     clear HO HB2
     obtain ⟨kk,hkk,hg,rfl,HO,HB⟩:=hrel
     by_cases hlt:kk<l0.length
     ·have hlti:(kk:Int)<(l0.length:Int):=by omega
      obtain ⟨ad,A1,c1,rfl,hx,hlx,hix⟩:=at_L2 HR0.out (kk:Int) (by omega) hlti
      replace hx:=(HB.out.cell (World.block_lt_of_cell? w _ hx)).trans hx
      simp only [Int.toNat_natCast] at hx
      have hn:=take_nextC l0 kk hlt
      have hle:=take_flatC l0 (kk+1)
      rw [hn,List.length_append] at hle
      have HN:=aK hn
      have HLE:=aK hle
      have HI:=aK hix
      generalize rd_L2 l0 (kk:Int)=x at *
      have HKS:=aK (show wrap64 ((kk:Int)+1)=((kk+1:Nat):Int) by have:=HL.out.1;unfold wrap64;omega)
      clear hn hle hix hlx
      have HY:=aK (show (l0.take kk).flatten++x=(l0.take (kk+1)).flatten from HN.out.symm)
      generalize hys:(l0.take (kk+1)).flatten=ys at HY
      generalize hxs:(l0.take kk).flatten=xs at HO HLE HY
      obtain ⟨A8,c8,rfl⟩:=Kd.R_slice HO.out
      have HYS:=aK hys
      clear HN hys hxs
      go_wp2_with ((with_reducible refine gate_builtin (b:=.append) (xs:=#[.tmp 31,.tmp 32]) rfl ?_);at_builtin;refine Kd.R_append_rows k41 (w0:=w) w.heap.size rfl (.tmp 31) (.tmp 32) 22 41 (.agg #[(.int .i64 0),(.int .i64 0),(.int .i64 0),(.int .i64 0)]) 32 rfl Try.underlying22 info41 rfl (by decide) (by omega) (.slice A8 xs.length c8) xs x _ _ _ (fun _=>True) (fun _=>False) rfl rfl ?aO ?aR (fun _ _ h=>h) (fun _ h=>h.elim) (fun _ _=>trivial) ?aB ?aS ?aL ?_;(case aR=>repeat (first|exact (Kd.C_below HI.out HB.out)|(with_reducible refine Kd.C_alloc ?_ _)|(with_reducible refine Kd.C_drewN ?_ _)|(with_reducible refine Kd.C_drew ?_)));(case aB=>first|exact HB.out|exact below_drew1 HB.out|exact below_drew1 (below_drew1 HB.out));(case aO=>(with_reducible repeat (first|apply Kd.R_alloc|apply Kd.R_drewN|apply Kd.R_drew));exact HO.out);(case aS=>exact (below_size (by first|exact HB.out|exact below_drew1 HB.out|exact below_drew1 (below_drew1 HB.out))));(case aL=>have:=HLE.out;have:=HL.out;omega);intro v1 w1 ho hb hg hat;rw [HY.out] at ho;obtain ⟨A7,c7,rfl⟩:=Kd.R_slice ho;have HO1:=aK ho;have HB1:=aK hb;clear ho hb hg hat)
      go_roundg (l0.length-(kk+1))
      case measure=>omega
      case rel=>exact ⟨kk+1,by omega,by omega,congrArg (Value.int .i64) HKS.out,⟨by rw [HYS.out];(with_reducible repeat (first|apply Kd.R_alloc|apply Kd.R_drewN|apply Kd.R_drew));exact HO1.out⟩,⟨by first|exact HB1.out|exact below_drew1 HB1.out⟩⟩
     ·have hlti : ¬ (kk:Int)<(l0.length:Int):=by omega
      obtain rfl:kk=l0.length:=by omega
      have hxs:(l0.take l0.length).flatten=l0.flatten:=by rw [List.take_of_length_le (Nat.le_refl _)]
      rw [hxs] at HO
      obtain ⟨xs,hf⟩ : ∃ xs,l0.flatten=xs:=⟨_,rfl⟩
      rw [hf] at HO
      have HF:=aK hf
      clear hf hxs
      obtain ⟨A8,c8,rfl⟩:=Kd.R_slice HO.out
      go_wp2
      go_ret
      exact ⟨_,rfl,by rw [HF.out];exact HO.out,HB.out⟩
 ·rw [if_neg hl] at h
  exact absurd h (by simp)
set_option maxHeartbeats 4000000 in
theorem grow4R_calls (n : Int) (w : World) (hn0 : 0 ≤ n) (hn : n < 4398046511104) :
  Calls Try.prog 62 #[.slice none 0 0,.int .i64 n] w fun e w'=>∃ v0_:Value,e = .returned (v0_)∧Kd.R k46 46 w' w.heap.size (fun _=>True) v0_ []∧Below w.heap.size w w':=by
 obtain ⟨i0,hi0,_,hsz,_⟩:=info_parts info46
 have hcut0:=cut_to (P:=Try.prog) 23 46 .i64 Try.underlying23 hi0 none 0 0 0 (by omega) (by omega) (by omega)
 have hcut1:=fun (A:Option Addr) (m c:Nat) (h:m≤c)=>cut_to (P:=Try.prog) 23 46 .i64 Try.underlying23 hi0 A m c 0 (by omega) (by omega) h
 have hq:decide (n<0)=false:=decide_eq_false (by omega)
 have hw:wrap64 n=n:=by unfold wrap64;omega
 have HN:=aK (show 0≤n∧n<4398046511104 from ⟨hn0,hn⟩)
 by_cases h0:n=0
 ·subst h0
  go_enter Try.func62,Try.ntmps62
  go_wp2
  go_ret
  exact ⟨_,rfl,Kd.R_nil _ _ _ _ _,Below.refl _ _⟩
 ·have hp:decide (0<n)=true:=decide_eq_true (by omega)
  have HC:=aK hcut1
  have HW:=aK hw
  clear hcut1 hn hn0 h0
  go_enter Try.func62,Try.ntmps62
  go_wp2_with ((with_reducible refine gate_builtin (b:=.append) (xs:=#[.tmp 20,.tmp 21]) rfl ?_);at_builtin;refine Kd.R_append_zeros k46 (w0:=w) w.heap.size rfl (.tmp 20) (.tmp 21) 23 3 46 (.agg #[(.int .i64 0),(.int .i64 0),(.int .i64 0),(.int .i64 0)]) 32 rfl Try.underlying23 Try.underlying3 info46 rfl (by decide) (by omega) (.slice none 0 0) [] z46 (wrap64 n) (fun _=>True) rfl rfl ?aZ (fun _ _=>trivial) ?aO (by rw [HW.out];exact HN.out.1) ?aB ?aS ?aL ?_;(case aZ=>exact k46_mkM _ _ _ z46);(case aO=>exact Kd.R_nil _ _ _ _ _);(case aB=>first|exact Below.refl _ _|exact below_drew1 (Below.refl _ _));(case aS=>simp);(case aL=>have:=HN.out;rw [HW.out];simp only [List.length_nil];omega);intro v1 w1 ho hb hg hat;obtain ⟨A1,c1,rfl⟩:=Kd.R_slice ho;have hc:=HC.out A1 _ c1 (Kd.R_reads' ho).2.1;have HO:=aK ho;have HB:=aK hb;clear ho hb hg hat HC)
  go_ret
  exact ⟨_,rfl,Kd.R_take HO.out (Nat.zero_le _),HB.out⟩
theorem take_nextR (l0:List (List S46)) (kk:Nat) (h:kk<l0.length):(l0.take (kk+1)).flatten=(l0.take kk).flatten++rd_L4 l0 (kk:Int):=by
 rw [List.take_add_one,List.flatten_append]
 congr 1
 rw [List.getElem?_eq_getElem h]
 simp [rd_L4,h]
theorem take_flatR (l0:List (List S46)) (kk:Nat):(l0.take kk).flatten.length≤l0.flatten.length:=by
 conv=>rhs;rw [← List.take_append_drop kk l0,List.flatten_append,List.length_append]
 omega
def api_LigRule_32.f (l0:List (List S46)):Option (List S46):=if l0.length<4398046511104∧l0.flatten.length<4398046511104 then some l0.flatten else none
set_option maxHeartbeats 4000000 in
theorem api_LigRule_32.calls (A0 : Option Addr) (c0 : Nat) (l0 : List (List S46)) (r : List S46) (w : World) (hr0 : Kd.C (Kd.slice 46 k46) w A0 l0.length l0) (hc0 : l0.length ≤ c0) (h : api_LigRule_32.f l0 = some r) :
  Calls Try.prog 32 #[.slice A0 l0.length c0] w fun e w'=>∃ v0_:Value,e = .returned (v0_)∧Kd.R k46 46 w' w.heap.size (fun _=>True) v0_ r∧Below w.heap.size w w':=by
 unfold api_LigRule_32.f at h
 by_cases hl:l0.length<4398046511104∧l0.flatten.length<4398046511104
 ·rw [if_pos hl] at h
  obtain rfl:l0.flatten=r:=Option.some.inj h
  have HR0:=aK hr0
  have HL:=aK hl
  have HB0:=aK (Below.refl w.heap.size w)
  clear hr0 h hl hc0
  go_enter Try.func32,Try.ntmps32
  go_wp2
  go_loopg [3,5,11] l0.length (fun gg s3 s5 s11 wr=>∃ (kk:Nat) (sz:Int),kk≤l0.length∧l0.length-kk≤gg∧s3 = .int .i64 sz∧s11 = .int .i64 kk∧Aside0 (sz=((l0.take kk).flatten.length:Int))∧Aside0 (Below w.heap.size w wr))
  case atStart=>exact ⟨0,0,Nat.zero_le _,by omega,rfl,rfl,⟨by simp⟩,⟨by first|exact HB0.out|exact below_drew1 HB0.out⟩⟩
  case round =>
   obtain ⟨kk,sz,hkk,hg,rfl,rfl,HS,HB⟩:=hrel
   by_cases hlt:kk<l0.length
   ·have hlti:(kk:Int)<(l0.length:Int):=by omega
    obtain ⟨ad,A1,c1,rfl,hx,hlx,hix⟩:=at_L4 HR0.out (kk:Int) (by omega) hlti
    replace hx:=(HB.out.cell (World.block_lt_of_cell? w _ hx)).trans hx
    simp only [Int.toNat_natCast] at hx
    obtain ⟨sz',hsz'⟩ : ∃ s:Int,s=((l0.take (kk+1)).flatten.length:Int):=⟨_,rfl⟩
    have hn:=take_nextR l0 kk hlt
    have hle:=take_flatR l0 (kk+1)
    have hstep:wrap64 (sz+((rd_L4 l0 (kk:Int)).length:Int))=sz':=by
     rw [hsz',hn,List.length_append,HS.out]
     rw [hn,List.length_append] at hle
     have:=HL.out.2
     unfold wrap64
     omega
    have hneg:decide (sz'<0)=false:=decide_eq_false (by omega)
    have HSZ:=aK hsz'
    generalize rd_L4 l0 (kk:Int)=x at *
    clear hn hle hsz' hix hlx
    go_wp2
    go_roundg (l0.length-(kk+1))
    case measure=>omega
    case rel=>exact ⟨kk+1,sz',by omega,by omega,congrArg (Value.int .i64) hstep,congrArg (Value.int .i64) (show wrap64 ((kk:Int)+1)=((kk+1:Nat):Int) by have:=HL.out.1;unfold wrap64;omega),HSZ,⟨by first|exact HB.out|exact below_drew1 HB.out⟩⟩
   ·have hlti : ¬ (kk:Int)<(l0.length:Int):=by omega
    obtain rfl:kk=l0.length:=by omega
    have hsz0:0≤sz∧sz<4398046511104:=by
     rw [HS.out,List.take_of_length_le (Nat.le_refl _)]
     exact ⟨by omega,by have:=HL.out.2;omega⟩
    go_wp2_with fail
    refine (grow4R_calls sz _ hsz0.1 hsz0.2).mono ?_
    rintro e W2 ⟨v0,rfl,ho,hb⟩
    have HO:=aK (Kd.R_lower ho (below_size (by first|exact HB.out|exact below_drew1 HB.out)))
    have HB2:=aK (below_step (by first|exact HB.out|exact below_drew1 HB.out) hb)
    clear ho hb HB HS hsz0
    obtain ⟨A9,c9,rfl⟩:=Kd.R_slice HO.out
    go_wp2
    go_loopg [6,8,27] l0.length (fun gg s6 s8 s27 wr=>∃ (kk:Nat),kk≤l0.length∧l0.length-kk≤gg∧s27 = .int .i64 kk∧Aside0 (Kd.R k46 46 wr w.heap.size (fun _=>True) s6 (l0.take kk).flatten)∧Aside0 (Below w.heap.size w wr))
    case atStart=>exact ⟨0,Nat.zero_le _,by omega,rfl,⟨by simpa using HO.out⟩,⟨by first|exact HB2.out|exact below_drew1 HB2.out⟩⟩
    case round =>
     clear HO HB2
     obtain ⟨kk,hkk,hg,rfl,HO,HB⟩:=hrel
     by_cases hlt:kk<l0.length
     ·have hlti:(kk:Int)<(l0.length:Int):=by omega
      obtain ⟨ad,A1,c1,rfl,hx,hlx,hix⟩:=at_L4 HR0.out (kk:Int) (by omega) hlti
      replace hx:=(HB.out.cell (World.block_lt_of_cell? w _ hx)).trans hx
      simp only [Int.toNat_natCast] at hx
      have hn:=take_nextR l0 kk hlt
      have hle:=take_flatR l0 (kk+1)
      rw [hn,List.length_append] at hle
      have HN:=aK hn
      have HLE:=aK hle
      have HI:=aK hix
      generalize rd_L4 l0 (kk:Int)=x at *
      have HKS:=aK (show wrap64 ((kk:Int)+1)=((kk+1:Nat):Int) by have:=HL.out.1;unfold wrap64;omega)
      clear hn hle hix hlx
      have HY:=aK (show (l0.take kk).flatten++x=(l0.take (kk+1)).flatten from HN.out.symm)
      generalize hys:(l0.take (kk+1)).flatten=ys at HY
      generalize hxs:(l0.take kk).flatten=xs at HO HLE HY
      obtain ⟨A8,c8,rfl⟩:=Kd.R_slice HO.out
      have HYS:=aK hys
      clear HN hys hxs
      go_wp2_with ((with_reducible refine gate_builtin (b:=.append) (xs:=#[.tmp 31,.tmp 32]) rfl ?_);at_builtin;refine Kd.R_append_rows k46 (w0:=w) w.heap.size rfl (.tmp 31) (.tmp 32) 23 46 (.agg #[(.int .i64 0),(.int .i64 0),(.int .i64 0),(.int .i64 0)]) 32 rfl Try.underlying23 info46 rfl (by decide) (by omega) (.slice A8 xs.length c8) xs x _ _ _ (fun _=>True) (fun _=>False) rfl rfl ?aO ?aR (fun _ _ h=>h) (fun _ h=>h.elim) (fun _ _=>trivial) ?aB ?aS ?aL ?_;(case aR=>repeat (first|exact (Kd.C_below HI.out HB.out)|(with_reducible refine Kd.C_alloc ?_ _)|(with_reducible refine Kd.C_drewN ?_ _)|(with_reducible refine Kd.C_drew ?_)));(case aB=>first|exact HB.out|exact below_drew1 HB.out|exact below_drew1 (below_drew1 HB.out));(case aO=>(with_reducible repeat (first|apply Kd.R_alloc|apply Kd.R_drewN|apply Kd.R_drew));exact HO.out);(case aS=>exact (below_size (by first|exact HB.out|exact below_drew1 HB.out|exact below_drew1 (below_drew1 HB.out))));(case aL=>have:=HLE.out;have:=HL.out;omega);intro v1 w1 ho hb hg hat;rw [HY.out] at ho;obtain ⟨A7,c7,rfl⟩:=Kd.R_slice ho;have HO1:=aK ho;have HB1:=aK hb;clear ho hb hg hat)
      go_roundg (l0.length-(kk+1))
      case measure=>omega
      case rel=>exact ⟨kk+1,by omega,by omega,congrArg (Value.int .i64) HKS.out,⟨by rw [HYS.out];(with_reducible repeat (first|apply Kd.R_alloc|apply Kd.R_drewN|apply Kd.R_drew));exact HO1.out⟩,⟨by first|exact HB1.out|exact below_drew1 HB1.out⟩⟩
     ·have hlti : ¬ (kk:Int)<(l0.length:Int):=by omega
      obtain rfl:kk=l0.length:=by omega
      have hxs:(l0.take l0.length).flatten=l0.flatten:=by rw [List.take_of_length_le (Nat.le_refl _)]
      rw [hxs] at HO
      obtain ⟨xs,hf⟩ : ∃ xs,l0.flatten=xs:=⟨_,rfl⟩
      rw [hf] at HO
      have HF:=aK hf
      clear hf hxs
      obtain ⟨A8,c8,rfl⟩:=Kd.R_slice HO.out
      go_wp2
      go_ret
      exact ⟨_,rfl,by rw [HF.out];exact HO.out,HB.out⟩
 ·rw [if_neg hl] at h
  exact absurd h (by simp)
end Go.Proofs.Ytoemkemmiikhlaa.PC2
