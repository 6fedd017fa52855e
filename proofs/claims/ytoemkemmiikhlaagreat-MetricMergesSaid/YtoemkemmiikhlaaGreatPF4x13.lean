import Derived.Test.YtoemkemmiikhlaaGreatPF4x0
import Derived.Test.YtoemkemmiikhlaaGreatPF4x1
import Derived.Test.YtoemkemmiikhlaaGreatPF4x3
import Derived.Test.YtoemkemmiikhlaaGreatPF4x7
import Derived.Test.YtoemkemmiikhlaaGreatPF4x8
set_option maxRecDepth 100000
namespace Go.Proofs.YtoemkemmiikhlaaGreat.PF4
open Go.RowKit Go.Proofs.YtoemkemmiikhlaaGreatW.PrintWords Go.Proofs.YtoemkemmiikhlaaGreatW.PrintLast Go.Proofs.YtoemkemmiikhlaaGreatW.PrintMore
attribute [local go_sem] max2_int min2_int max_two min_two max_three min_three max_four min_four
set_option linter.unusedVariables false
set_option linter.unusedSimpArgs false
set_option maxHeartbeats 8000000 in
theorem scale_room (v s m:Int) (hv : -268435456≤v∧v≤268435456) (hs:1≤s∧s≤268435456) (hm:1≤m∧m≤268435456):wrap64 (wrap64 (wrap64 (2*v)*s)+m)=2*v*s+m∧wrap64 (2*m)=2*m∧-144115188075855872-268435456≤2*v*s+m∧2*v*s+m≤144115188075855872+268435456:=by
 have e1:wrap64 (2*v)=2*v:=by unfold wrap64;omega
 have h1:2*v*s≤536870912*268435456:=by
  rcases Int.le_total 0 v with h|h
  ·exact Int.mul_le_mul (by omega) hs.2 (by omega) (by decide)
  ·have:=Int.mul_nonpos_of_nonpos_of_nonneg (a:=2*v) (b:=s) (by omega) (by omega)
   omega
 have h2 : -(2*v)*s≤536870912*268435456:=by
  rcases Int.le_total 0 v with h|h
  ·have:=Int.mul_nonpos_of_nonpos_of_nonneg (a:=-(2*v)) (b:=s) (by omega) (by omega)
   omega
  ·exact Int.mul_le_mul (by omega) hs.2 (by omega) (by decide)
 rw [Int.neg_mul] at h2
 rw [e1]
 generalize 2*v*s=p at *
 have e2:wrap64 p=p:=by unfold wrap64;omega
 rw [e2]
 refine ⟨by unfold wrap64;omega,by unfold wrap64;omega,by omega,by omega⟩
def scaleV (v s m:Int):Int:=if (2*v*s+m).tmod (2*m)<0 then (2*v*s+m).tdiv (2*m)-1 else (2*v*s+m).tdiv (2*m)
set_option maxHeartbeats 8000000 in
theorem scale1_calls (v s m : Int) (b2 b3 : Nat) (x1 x2 : Value) (W : World) (h3 : W.heap[b3]? = some (.cells #[.int .i64 s] 3 (0, 0))) (h2 : W.heap[b2]? = some (.cells #[.int .i64 m, x1, x2] 25 (0, 0))) (hv : -268435456 ≤ v ∧ v ≤ 268435456) (hs : 1 ≤ s ∧ s ≤ 268435456) (hm : 1 ≤ m ∧ m ≤ 268435456) :
  Calls Tryz.prog 61 #[.int .i64 v,.pointer (some ⟨b3,0,none⟩),.pointer (some ⟨b2,0,none⟩)] W fun e w'=>e = .returned (.int .i64 (scaleV v s m))∧Below W.heap.size W w':=by
 have hu:=Tryz.underlying25
 obtain ⟨r1,r2,r3,r4⟩:=scale_room v s m hv hs hm
 have HR1:=aK r1
 have HR2:=aK r2
 have HSV:Aside0 (scaleV v s m=if (2*v*s+m).tmod (2*m)<0 then (2*v*s+m).tdiv (2*m)-1 else (2*v*s+m).tdiv (2*m)):=⟨rfl⟩
 have P0:Aside0 (W.drew.cell? ⟨b3,0,none⟩=some (.int .i64 s)):=⟨(blk_cell h3 0).trans rfl⟩
 have P1:Aside0 (W.drew.cell? ⟨b2,0,none⟩=some (.int .i64 m)):=⟨(blk_cell h2 0).trans rfl⟩
 go_enter Tryz.func61,Tryz.ntmps61
 go_upto_region 1 with (fail)
 refine start_ (n:=12) (S:=fun w'=>w'.cell? ⟨b3,0,none⟩=some (.int .i64 s)∧w'.cell? ⟨b2,0,none⟩=some (.int .i64 m)) (ds:=[]) #[false,false,false,false,false,false,false,false,false,false,false,false] (by kernel_rfl) rfl rfl ⟨P0.out,P1.out⟩ (fun hHeld=>?_)
 refine pu 0 (some 8) ?_ rfl rfl (by kernel_rfl) (fun _ _ _ h=>h) (.inl ⟨by rfl,?_⟩) ?_ ?_ ?_;rotate_left;intro w';go_simp;with_reducible rfl;rotate_left;simp only [nS];rfl
 refine pu 1 (some 9) ?_ rfl rfl (by kernel_rfl) (fun _ _ _ h=>h) (.inl ⟨by rfl,?_⟩) ?_ ?_ ?_;rotate_left;intro w';go_simp;with_reducible rfl;rotate_left;simp only [nS];rfl
 refine pu 4 (some 12) ?_ rfl rfl (by kernel_rfl) (fun _ _ _ h=>h) (.inl ⟨by rfl,?_⟩) ?_ ?_ ?_;rotate_left;intro w';go_simp;with_reducible rfl;rotate_left;simp only [nS];rfl
 refine pu 7 (some 15) ?_ rfl rfl (by kernel_rfl) (fun _ _ _ h=>h) (.inl ⟨by rfl,?_⟩) ?_ ?_ ?_;rotate_left;intro w';go_simp;with_reducible rfl;rotate_left;simp only [nS];rfl
 refine tk 2 (some 10) ?_ rfl rfl (by kernel_rfl) (fun _ _ _ h=>h) (.inl ⟨by rfl,?_⟩) hHeld ?_ ?_ ?_;rotate_left;rintro w' ⟨s0,s1⟩;go_simp;with_reducible rfl;rotate_left;simp only [nS];rfl
 refine pu 3 (some 11) ?_ rfl rfl (by kernel_rfl) (fun _ _ _ h=>h) (.inl ⟨by rfl,?_⟩) ?_ ?_ ?_;rotate_left;intro w';go_simp;with_reducible rfl;rotate_left;simp only [nS];rfl
 refine tk 5 (some 13) ?_ rfl rfl (by kernel_rfl) (fun _ _ _ h=>h) (.inl ⟨by rfl,?_⟩) hHeld ?_ ?_ ?_;rotate_left;rintro w' ⟨s0,s1⟩;go_simp;with_reducible rfl;rotate_left;simp only [nS];rfl
 refine pu 6 (some 14) ?_ rfl rfl (by kernel_rfl) (fun _ _ _ h=>h) (.inl ⟨by rfl,?_⟩) ?_ ?_ ?_;rotate_left;intro w';go_simp;with_reducible rfl;rotate_left;simp only [nS];rfl
 refine pu 10 (some 5) ?_ rfl rfl (by kernel_rfl) (fun _ _ _ h=>h) (.inl ⟨by rfl,?_⟩) ?_ ?_ ?_;rotate_left;intro w';go_simp;with_reducible rfl;rotate_left;simp only [nS];rfl
 refine tk 8 (some 16) ?_ rfl rfl (by kernel_rfl) (fun _ _ _ h=>h) (.inl ⟨by rfl,?_⟩) hHeld ?_ ?_ ?_;rotate_left;rintro w' ⟨s0,s1⟩;go_simp;with_reducible rfl;rotate_left;simp only [nS];rfl
 refine pu 9 (some 17) ?_ rfl rfl (by kernel_rfl) (fun _ _ _ h=>h) (.inl ⟨by rfl,?_⟩) ?_ ?_ ?_;rotate_left;intro w';go_simp;with_reducible rfl;rotate_left;simp only [nS];rfl
 refine pu 11 (some 6) ?_ rfl rfl (by kernel_rfl) (fun _ _ _ h=>h) (.inl ⟨by rfl,?_⟩) ?_ ?_ ?_;rotate_left;intro w';go_simp;with_reducible rfl;rotate_left;simp only [nS];rfl
 refine done_ (by kernel_rfl) ?_
 rw [HR1.out,HR2.out]
 have HB:=aK (below_drew1 (Below.refl W.heap.size W))
 have hm2:2*m≠0:=by omega
 have hq:=Int.natAbs_tdiv_le_natAbs (2*v*s+m) (2*m)
 have HW:Aside0 (wrap64 ((2*v*s+m).tdiv (2*m)-1)=(2*v*s+m).tdiv (2*m)-1):=⟨by
  generalize (2*v*s+m).tdiv (2*m)=q at *
  generalize 2*v*s+m=p at *
  unfold wrap64
  omega⟩
 clear h2 h3 r1 r2 hq
 by_cases ht:(2*v*s+m).tmod (2*m)<0
 ·have htd:decide ((2*v*s+m).tmod (2*m)<0)=true:=decide_eq_true ht
  have HV1:Aside0 (wrap64 ((2*v*s+m).tdiv (2*m)-1)=scaleV v s m):=⟨by rw [HSV.out,if_pos ht,HW.out]⟩
  go_wp2
  go_ret
  exact ⟨congrArg (fun x=>Ending.returned (.int .i64 x)) HV1.out,HB.out⟩
 ·have htd:decide ((2*v*s+m).tmod (2*m)<0)=false:=decide_eq_false ht
  have HV1:Aside0 ((2*v*s+m).tdiv (2*m)=scaleV v s m):=⟨by rw [HSV.out,if_neg ht]⟩
  go_wp2
  go_ret
  exact ⟨congrArg (fun x=>Ending.returned (.int .i64 x)) HV1.out,HB.out⟩
theorem goesc_ {P : Program} {ops : Array Oper} {Q : Exit → Act → World → Prop} {oi : Oper} {N : Option Tmp} {a : Act} {w : World} {K : Act → World → Prop} {g : FuncId} {s : Operand} {xs : Array Operand} {ts : Array TypeId} (lb args all : Array Value) (hall : args ++ lb = all)
  (eg : ∀ args w,(callFunc g args).run P w = .ok (.enter g args) w)
  (hw:Region.wanted oi (yielded ops a.tmps)=true) (hN:oi.dst=N) (hop:oi.op = .call { callee:=.value s,args:=xs,argTypes:=ts }) (hs:a.eval s = .func (.func g) #[] lb) (hargs:xs.map a.eval=args)
  (h:Calls P g all w fun e w'=>∃ v,e = .returned v∧K (a.put N v) w'):if Region.wanted oi (yielded ops a.tmps)=true then Oper.wp P oi a w K Q else K (a.put N undef) w:=by
 subst hall
 exact goesv_ lb args eg hw hN hop hs hargs h
def scaleC (s m:Int) (x:S50):S50:=⟨x.f0,scaleV x.f1 s m,scaleV x.f2 s m,scaleV x.f3 s m⟩
def scaleR (s m:Int) (x:S45):S45:=⟨x.f0,x.f1,x.f2,if x.f2=0 then scaleV x.f3 s m else x.f3⟩
def scaleM (sz:Int) (cs:List S50) (rs:List S45) (s:Int):Int×List S50×List S45×Int :=
 if validM sz cs rs then (if sizeB s then (if validM s (cs.map (scaleC s sz)) (rs.map (scaleR s sz)) then (s,cs.map (scaleC s sz),rs.map (scaleR s sz),0) else (0,[],[],17)) else (0,[],[],2)) else (0,[],[],2)
structure ScB (w W:World) (b2 b3 b4:Nat) (sz size:Int) (v1 v2:Value):Prop where
 met:W.heap[b2]?=some (.cells #[.int .i64 sz,v1,v2] 25 (0,0))
 siz:W.heap[b3]?=some (.cells #[.int .i64 size] 3 (0,0))
 res:W.heap[b4]?=some (.cells #[.int .i64 0,.slice none 0 0,.slice none 0 0] 25 (0,0))
 below:Below w.heap.size w W
theorem ScB.ofBelow {w W W':World} {b2 b3 b4:Nat} {sz size:Int} {v1 v2:Value} (h:ScB w W b2 b3 b4 sz size v1 v2) (hb:Below W.heap.size W W'):ScB w W' b2 b3 b4 sz size v1 v2 :=
 ⟨blk_below h.met hb,blk_below h.siz hb,blk_below h.res hb,below_step h.below hb⟩
structure ScI (w W:World) (b2 b3 b4 b7:Nat) (sz size:Int) (v1 v2 v3 v4:Value) (cs:List S50) (rs:List S45):Prop where
 base:ScB w W b2 b3 b4 sz size v1 v2
 out:W.heap[b7]?=some (.cells #[.int .i64 size,v3,v4] 25 (0,0))
 rowC:Kd.R k50 50 W w.heap.size (fun _=>True) v3 cs
 rowR:Kd.R k45 45 W w.heap.size (fun _=>True) v4 rs
theorem ScI.ofBelow {w W W':World} {b2 b3 b4 b7:Nat} {sz size:Int} {v1 v2 v3 v4:Value} {cs:List S50} {rs:List S45} (h:ScI w W b2 b3 b4 b7 sz size v1 v2 v3 v4 cs rs) (hb:Below W.heap.size W W'):ScI w W' b2 b3 b4 b7 sz size v1 v2 v3 v4 cs rs :=
 ⟨h.base.ofBelow hb,blk_below h.out hb,Kd.R_below h.rowC hb,Kd.R_below h.rowR hb⟩
theorem heap_setCells {w:World} {g o b:Nat} {t t':TypeId} {cs cs':Array Value} (vs:List Value) (h:w.heap[b]?=some (.cells cs t (0,0))) (hg:w.heap[g]?=some (.cells cs' t' (0,0))) (hne:t≠t'):(w.setCells g o vs).heap[b]?=some (.cells cs t (0,0)):=by
 rw [setCells_far vs o b (blk_ne h hg hne)]
 exact h
theorem below_setCells {w W:World} {g:Nat} (hg:w.heap.size≤g) : ∀ (vs:List Value) (o:Nat),Below w.heap.size w W→Below w.heap.size w (W.setCells g o vs):=by
 intro vs
 induction vs generalizing W with
 | nil=>intro o h;exact h
 | cons v vs ih=>intro o h;exact ih (o+1) (below_set h hg)
theorem ScI.four {w W : World} {b2 b3 b4 b7 g n cap : Nat} {sz size : Int} {v1 v2 v4 : Value} {cs : List S50} {rs : List S45} (h : ScI w W b2 b3 b4 b7 sz size v1 v2 (.slice (some ⟨g, 0, none⟩) n cap) v4 cs rs) (i : Nat) (hi : i < n) (x : S50) :
  ScI w (W.setCells g (i*4) [.int .i64 x.f0,.int .i64 x.f1,.int .i64 x.f2,.int .i64 x.f3]) b2 b3 b4 b7 sz size v1 v2 (.slice (some ⟨g,0,none⟩) n cap) v4 (cs.set i x) rs:=by
 obtain ⟨A,c,he,-⟩:=Kd.R_reads h.rowC
 have hn:n=cs.length:=by injection he
 obtain ⟨g',cap',he2,hb,-,cells,hg⟩:=Kd.R_form h.rowC (by omega)
 injection he2 with he3
 injection he3 with he3
 injection he3 with he3
 subst he3
 obtain ⟨c0,hcl,hM,hcc,-⟩:=Kd.R_elem h.rowC ⟨0,0,0,0⟩ (i:Int) (by omega) (by omega)
 refine ⟨⟨heap_setCells _ h.base.met hg (by decide),heap_setCells _ h.base.siz hg (by decide),heap_setCells _ h.base.res hg (by decide),below_setCells hb _ _ h.base.below⟩,heap_setCells _ h.out hg (by decide),?_,?_⟩
 ·have:=(Kd.R_seg (seg:=[.int .i64 x.f0,.int .i64 x.f1,.int .i64 x.f2,.int .i64 x.f3]) (j:=0) (x':=x) (okp:=fun k=>True∧k≠g) h.rowC (i:Int) (by omega) (by omega) hcl hcc (show 0+4≤4 from Nat.le_refl 4) (by
   rw [k50_openM hM]
   exact k50_mkM _ _ _ x) (fun k hk=>hk)).1
  exact this
 ·exact Kd.R_mono (Kd.R_step (Kd.R_types h.rowR hg (fun q hq=>by rw [opq45 q hq];decide)) (fun k hk _=>setCells_far _ _ k hk.2)) (fun _ hk=>hk.1)
theorem ScI.one {w W : World} {b2 b3 b4 b7 g n cap : Nat} {sz size : Int} {v1 v2 v3 : Value} {cs : List S50} {rs : List S45} (h : ScI w W b2 b3 b4 b7 sz size v1 v2 v3 (.slice (some ⟨g, 0, none⟩) n cap) cs rs) (i : Nat) (hi : i < n) (x : S45) (y : Int) (hx : rs.getD i ⟨0, 0, 0, 0⟩ = x) :
  ScI w (W.setCell ⟨g,i*4+3,none⟩ (.int .i64 y)) b2 b3 b4 b7 sz size v1 v2 v3 (.slice (some ⟨g,0,none⟩) n cap) cs (rs.set i ⟨x.f0,x.f1,x.f2,y⟩):=by
 obtain ⟨A,c,he,-⟩:=Kd.R_reads h.rowR
 have hn:n=rs.length:=by injection he
 obtain ⟨g',cap',he2,hb,-,cells,hg⟩:=Kd.R_form h.rowR (by omega)
 injection he2 with he3
 injection he3 with he3
 injection he3 with he3
 subst he3
 obtain ⟨c0,hcl,hM,hcc,-⟩:=Kd.R_elem h.rowR ⟨0,0,0,0⟩ (i:Int) (by omega) (by omega)
 refine ⟨⟨heap_setCells [.int .i64 y] h.base.met hg (by decide),heap_setCells [.int .i64 y] h.base.siz hg (by decide),heap_setCells [.int .i64 y] h.base.res hg (by decide),below_setCells hb [.int .i64 y] _ h.base.below⟩,heap_setCells [.int .i64 y] h.out hg (by decide),?_,?_⟩
 ·exact Kd.R_mono (Kd.R_step (Kd.R_types h.rowC hg (fun q hq=>by rw [opq50 q hq];decide)) (fun k hk _=>setCells_far [.int .i64 y] _ k hk.2)) (fun _ hk=>hk.1)
 ·have:=(Kd.R_seg (seg:=[.int .i64 y]) (j:=3) (x':=⟨x.f0,x.f1,x.f2,y⟩) (okp:=fun k=>True∧k≠g) h.rowR (i:Int) (by omega) (by omega) hcl hcc (show 3+1≤4 from Nat.le_refl 4) (by
   have hx2:rs.getD ((i:Int).toNat) ⟨0,0,0,0⟩=x:=hx
   rw [hx2] at hM
   rw [k45_openM hM]
   exact k45_mkM _ _ _ (⟨x.f0,x.f1,x.f2,y⟩:S45)) (fun k hk=>hk)).1
  exact this
theorem ScI.cellsC {w W : World} {b2 b3 b4 b7 g n cap : Nat} {sz size : Int} {v1 v2 v4 : Value} {cs : List S50} {rs : List S45} (h : ScI w W b2 b3 b4 b7 sz size v1 v2 (.slice (some ⟨g, 0, none⟩) n cap) v4 cs rs) (i : Nat) (hi : i < n) (x : S50) (hx : cs.getD i ⟨0, 0, 0, 0⟩ = x) :
  (W.cell? ⟨g,i*4,none⟩=some (.int .i64 x.f0)∧W.cell? ⟨g,i*4+1,none⟩=some (.int .i64 x.f1)∧W.cell? ⟨g,i*4+2,none⟩=some (.int .i64 x.f2)∧W.cell? ⟨g,i*4+3,none⟩=some (.int .i64 x.f3))∧W.frozen? ⟨g,i*4,none⟩=false∧W.frozen? ⟨g,i*4+1,none⟩=false∧W.frozen? ⟨g,i*4+2,none⟩=false∧W.frozen? ⟨g,i*4+3,none⟩=false:=by
 obtain ⟨c0,hcl,hM,hcc,hf⟩:=Kd.R_elem h.rowC ⟨0,0,0,0⟩ (i:Int) (by omega) (by omega)
 have hx2:cs.getD ((i:Int).toNat) ⟨0,0,0,0⟩=x:=hx
 rw [hx2] at hM
 rw [k50_openM hM] at hcc
 exact ⟨⟨hcc 0 _ rfl,hcc 1 _ rfl,hcc 2 _ rfl,hcc 3 _ rfl⟩,hf 0,hf 1,hf 2,hf 3⟩
theorem ScI.cellsR {w W : World} {b2 b3 b4 b7 g n cap : Nat} {sz size : Int} {v1 v2 v3 : Value} {cs : List S50} {rs : List S45} (h : ScI w W b2 b3 b4 b7 sz size v1 v2 v3 (.slice (some ⟨g, 0, none⟩) n cap) cs rs) (i : Nat) (hi : i < n) (x : S45) (hx : rs.getD i ⟨0, 0, 0, 0⟩ = x) :
  (W.cell? ⟨g,i*4,none⟩=some (.int .i64 x.f0)∧W.cell? ⟨g,i*4+1,none⟩=some (.int .i64 x.f1)∧W.cell? ⟨g,i*4+2,none⟩=some (.int .i64 x.f2)∧W.cell? ⟨g,i*4+3,none⟩=some (.int .i64 x.f3))∧W.frozen? ⟨g,i*4,none⟩=false∧W.frozen? ⟨g,i*4+1,none⟩=false∧W.frozen? ⟨g,i*4+2,none⟩=false∧W.frozen? ⟨g,i*4+3,none⟩=false:=by
 obtain ⟨c0,hcl,hM,hcc,hf⟩:=Kd.R_elem h.rowR ⟨0,0,0,0⟩ (i:Int) (by omega) (by omega)
 have hx2:rs.getD ((i:Int).toNat) ⟨0,0,0,0⟩=x:=hx
 rw [hx2] at hM
 rw [k45_openM hM] at hcc
 exact ⟨⟨hcc 0 _ rfl,hcc 1 _ rfl,hcc 2 _ rfl,hcc 3 _ rfl⟩,hf 0,hf 1,hf 2,hf 3⟩
theorem half_set {α:Type} (f:α→α) (l:List α) (i:Nat) (h:i<l.length):((l.take i).map f++l.drop i).set i (f l[i])=(l.take (i+1)).map f++l.drop (i+1):=by
 have h1:=List.drop_eq_getElem_cons h
 have h2:((l.take i).map f).length=i:=by simp;omega
 rw [h1,List.set_append_right _ _ (by omega),h2,Nat.sub_self,List.set_cons_zero,List.take_add_one,List.getElem?_eq_getElem h,Option.toList_some,List.map_append,List.append_assoc]
 rfl
theorem half_get {α:Type} (f:α→α) (l:List α) (z:α) (i:Nat) (h:i<l.length):((l.take i).map f++l.drop i).getD i z=l[i]:=by
 rw [List.getD_eq_getElem?_getD,List.getElem?_append_right (by simp;omega)]
 have h2:i-((l.take i).map f).length=0:=by simp;omega
 rw [h2,List.getElem?_drop,Nat.add_zero,List.getElem?_eq_getElem h]
 rfl
theorem okC_room {l:List S50} (h:l.all okC=true) (i:Nat) (hi:i<l.length):(-268435456≤l[i].f1∧l[i].f1≤268435456)∧(-268435456≤l[i].f2∧l[i].f2≤268435456)∧(-268435456≤l[i].f3∧l[i].f3≤268435456):=by
 have h1:=List.all_eq_true.mp h _ (List.getElem_mem hi)
 unfold okC coordB at h1
 simp only [Bool.and_eq_true,decide_eq_true_eq] at h1
 omega
theorem okR_room {l:List S45} (h:l.all okR=true) (i:Nat) (hi:i<l.length) (h0:l[i].f2=0) : -268435456≤l[i].f3∧l[i].f3≤268435456:=by
 have h1:=List.all_eq_true.mp h _ (List.getElem_mem hi)
 unfold okR coordB at h1
 rw [if_pos h0] at h1
 simp only [Bool.and_eq_true,decide_eq_true_eq] at h1
 omega
set_option maxHeartbeats 8000000 in
theorem scale_calls (sz : Int) (A1 : Option Addr) (c1 : Nat) (cs : List S50) (A2 : Option Addr) (c2 : Nat) (rs : List S45) (size : Int) (w : World)
  (hr1:Kd.C k50 w A1 cs.length cs) (hc1:cs.length≤c1) (hr2:Kd.C k45 w A2 rs.length rs) (hc2:rs.length≤c2) (hl1:cs.length≤1000000) (hl2:rs.length≤1000000) :
  Calls Tryz.prog 24 #[.agg #[.int .i64 sz,.slice A1 cs.length c1,.slice A2 rs.length c2],.int .i64 size] w fun e w'=>∃ v1 v2,e = .returned (.tuple #[.agg #[.int .i64 (scaleM sz cs rs size).1,v1,v2],.int .i64 (scaleM sz cs rs size).2.2.2])∧Kd.R k50 50 w' w.heap.size (fun _=>True) v1 (scaleM sz cs rs size).2.1∧Kd.R k45 45 w' w.heap.size (fun _=>True) v2 (scaleM sz cs rs size).2.2.1∧Below w.heap.size w w':=by
 have hu:=Tryz.underlying25
 have hu50:=Tryz.underlying50
 have hu45:=Tryz.underlying45
 have HR1:=aK hr1
 have HR2:=aK hr2
 have HL1:=aK hl1
 have HL2:=aK hl2
 have HC1:=aK hc1
 have HC2:=aK hc2
 obtain ⟨b2,hb2⟩ : ∃ b2,b2=w.heap.size:=⟨_,rfl⟩
 obtain ⟨b3,hb3⟩ : ∃ b3,b3=w.heap.size+1:=⟨_,rfl⟩
 obtain ⟨b4,hb4⟩ : ∃ b4,b4=w.heap.size+1+1:=⟨_,rfl⟩
 have HLE:Aside0 (w.heap.size≤b4):=⟨by omega⟩
 have I0:ScB w (((w.alloc (.cells #[.int .i64 sz,.slice A1 cs.length c1,.slice A2 rs.length c2] 25)).alloc (.cells #[.int .i64 size] 3)).alloc (.cells #[.int .i64 0,.slice none 0 0,.slice none 0 0] 25)) b2 b3 b4 sz size (.slice A1 cs.length c1) (.slice A2 rs.length c2):=by
  subst hb2
  refine ⟨blk_alloc (blk_alloc (blk_new w _) _) _,?_,?_,below_alloc (below_alloc (below_alloc (Below.refl w.heap.size w) _) _) _⟩
  ·have h1:=blk_alloc (blk_new (w.alloc (.cells #[.int .i64 sz,.slice A1 cs.length c1,.slice A2 rs.length c2] 25)) (.cells #[.int .i64 size] 3)) (.cells #[.int .i64 0,.slice none 0 0,.slice none 0 0] 25)
   simp only [World.size_alloc] at h1
   rw [← hb3] at h1
   exact h1
  ·have h1:=blk_new ((w.alloc (.cells #[.int .i64 sz,.slice A1 cs.length c1,.slice A2 rs.length c2] 25)).alloc (.cells #[.int .i64 size] 3)) (.cells #[.int .i64 0,.slice none 0 0,.slice none 0 0] 25)
   simp only [World.size_alloc] at h1
   rw [← hb4] at h1
   exact h1
 have I0:=aK I0
 obtain ⟨r,hr⟩ : ∃ r,r=scaleM sz cs rs size:=⟨_,rfl⟩
 rw [← hr]
 have HF:=aK hr
 have HBE:=aK (And.intro hb2 (And.intro hb3 hb4))
 clear hr1 hr2 hl1 hl2 hc1 hc2 hr hb2 hb3 hb4
 go_enter Tryz.func24,Tryz.ntmps24
 go_upto_region 1 with (fail)
 rw [← HBE.out.2.2,← HBE.out.2.1,← HBE.out.1]
 generalize ((w.alloc (.cells #[.int .i64 sz,.slice A1 cs.length c1,.slice A2 rs.length c2] 25)).alloc (.cells #[.int .i64 size] 3)).alloc (.cells #[.int .i64 0,.slice none 0 0,.slice none 0 0] 25)=V at *
 have p0:=(blk_cell I0.out.met 0).trans rfl
 have p1:=(blk_cell I0.out.met 1).trans rfl
 have p2:=(blk_cell I0.out.met 2).trans rfl
 have hc:=valid_calls sz A1 c1 cs A2 c2 rs V (Kd.C_below HR1.out I0.out.below) (Kd.C_below HR2.out I0.out.below) (by have:=HL1.out;omega) (by have:=HL2.out;omega)
 cases hv:validM sz cs rs with
 | false =>
  have HO:Aside0 (r=(0,[],[],2)):=⟨by rw [HF.out,scaleM,hv];rfl⟩
  rw [hv] at hc
  clear hv HF
  go_wp2_with fail
  refine hc.mono ?_
  clear hc p0 p1 p2
  rintro e W1 ⟨rfl,hb1⟩
  have I1:=aK (I0.out.ofBelow hb1)
  clear hb1 I0
  have q0:=blk_frozen I1.out.res 0
  have q1:=blk_frozen I1.out.res 1
  have q2:=blk_frozen I1.out.res 2
  have q3:=(blk_cell I1.out.res 0).trans rfl
  have q4:=(blk_cell I1.out.res 1).trans rfl
  have q5:=(blk_cell I1.out.res 2).trans rfl
  have X3:=aK (blk_put (blk_put (blk_put I1.out.res 0 (.int .i64 0) rfl) 1 (.slice none 0 0) rfl) 2 (.slice none 0 0) rfl)
  go_wp2
  refine bodyPost_ret (results_ct rfl _ _ b4 25 #[.int .i64 0,.slice none 0 0,.slice none 0 0] (0,0) _ rfl X3.out Tryz.underlying25 rfl (by kernel_rfl)) rfl ?_
  rw [HO.out]
  exact ⟨.slice none 0 0,.slice none 0 0,rfl,Kd.R_nil _ _ _ _ _,Kd.R_nil _ _ _ _ _,below_set (below_set (below_set I1.out.below HLE.out) HLE.out) HLE.out⟩
 | true =>
  rw [hv] at hc
  have HF2:Aside0 (r=if sizeB size then (if validM size (cs.map (scaleC size sz)) (rs.map (scaleR size sz)) then (size,cs.map (scaleC size sz),rs.map (scaleR size sz),0) else (0,[],[],17)) else (0,[],[],2)):=⟨by rw [HF.out,scaleM,hv,if_pos rfl]⟩
  have hvr:sizeB sz=true∧cs.all okC=true∧rs.all okR=true:=by
   unfold validM validR at hv
   simp only [Bool.and_eq_true] at hv
   exact ⟨hv.1,hv.2.2.1,hv.2.2.2.2.2.1⟩
  have HVR:=aK hvr
  have HS:=aK (fun V=>metric_IsSize.calls size (sizeB size) V (isSize_is size))
  clear hv HF hvr
  go_wp2_with fail
  refine hc.mono ?_
  clear hc p0 p1 p2
  rintro e W1 ⟨rfl,hb1⟩
  have I1:=aK (I0.out.ofBelow hb1)
  clear hb1 I0
  have s0:=(blk_cell I1.out.siz 0).trans rfl
  cases hs:sizeB size with
  | false =>
   rw [hs] at HS
   have HO:Aside0 (r=(0,[],[],2)):=⟨by rw [HF2.out,hs,if_neg (by decide)]⟩
   clear hs HF2 HVR
   go_wp2_with fail
   refine (HS.out _).mono ?_
   rintro e W2 ⟨rfl,⟨n2,rfl⟩⟩
   have I2:=aK (I1.out.ofBelow (pw_below_drewN (Below.refl W1.heap.size W1) n2))
   generalize W1.drewN n2=W2 at *
   clear I1 HS s0
   have q0:=blk_frozen I2.out.res 0
   have q1:=blk_frozen I2.out.res 1
   have q2:=blk_frozen I2.out.res 2
   have q3:=(blk_cell I2.out.res 0).trans rfl
   have q4:=(blk_cell I2.out.res 1).trans rfl
   have q5:=(blk_cell I2.out.res 2).trans rfl
   have X3:=aK (blk_put (blk_put (blk_put I2.out.res 0 (.int .i64 0) rfl) 1 (.slice none 0 0) rfl) 2 (.slice none 0 0) rfl)
   go_wp2
   refine bodyPost_ret (results_ct rfl _ _ b4 25 #[.int .i64 0,.slice none 0 0,.slice none 0 0] (0,0) _ rfl X3.out Tryz.underlying25 rfl (by kernel_rfl)) rfl ?_
   rw [HO.out]
   exact ⟨.slice none 0 0,.slice none 0 0,rfl,Kd.R_nil _ _ _ _ _,Kd.R_nil _ _ _ _ _,below_set (below_set (below_set I2.out.below HLE.out) HLE.out) HLE.out⟩
  | true =>
   rw [hs] at HS
   have HF3:Aside0 (r=if validM size (cs.map (scaleC size sz)) (rs.map (scaleR size sz)) then (size,cs.map (scaleC size sz),rs.map (scaleR size sz),0) else (0,[],[],17)):=⟨by rw [HF2.out,hs,if_pos rfl]⟩
   have hsr:(1≤size∧size≤268435456)∧(1≤sz∧sz≤268435456):=by
    have h1:=HVR.out.1
    unfold sizeB at hs h1
    simp only [Bool.and_eq_true,decide_eq_true_eq] at hs h1
    omega
   have HSR:=aK hsr
   clear hs HF2 hsr
   go_wp2_with fail
   refine (HS.out _).mono ?_
   rintro e W2 ⟨rfl,⟨n2,rfl⟩⟩
   have I2:=aK (I1.out.ofBelow (pw_below_drewN (Below.refl W1.heap.size W1) n2))
   generalize W1.drewN n2=V4 at *
   clear I1 HS s0
   go_upto_region 4 with (fail)
   have I0:=aK (I2.out.ofBelow (below_drew1 (Below.refl V4.heap.size V4)))
   have HCC:=aK (fun V (h:Below w.heap.size w V)=>api_CharMetric_62.calls A1 c1 cs cs V (Kd.C_below HR1.out h) HC1.out (by unfold api_CharMetric_62.f;rw [if_pos (by have:=HL1.out;omega)]))
   have HCR:=aK (fun V (h:Below w.heap.size w V)=>api_LigRule_63.calls A2 c2 rs rs V (Kd.C_below HR2.out h) HC2.out (by unfold api_LigRule_63.f;rw [if_pos (by have:=HL2.out;omega)]))
   refine start_ (n:=10) (S:=fun w'=>w'.cell? ⟨b3,0,none⟩=some (.int .i64 size)∧w'.cell? ⟨b2,1,none⟩=some (.slice A1 cs.length c1)∧w'.cell? ⟨b2,2,none⟩=some (.slice A2 rs.length c2)) (ds:=[9]) #[false,false,false,false,false,false,false,false,false,false] (by kernel_rfl) rfl rfl ⟨(blk_cell I0.out.siz 0).trans rfl,(blk_cell I0.out.met 1).trans rfl,(blk_cell I0.out.met 2).trans rfl⟩ (fun hHeld=>?_)
   refine pu 1 (some 23) ?_ rfl rfl (by kernel_rfl) (fun _ _ _ h=>h) (.inl ⟨by rfl,?_⟩) ?_ ?_ ?_;rotate_left;intro w';go_simp;with_reducible rfl;rotate_left;simp only [nS];rfl
   refine pu 4 (some 26) ?_ rfl rfl (by kernel_rfl) (fun _ _ _ h=>h) (.inl ⟨by rfl,?_⟩) ?_ ?_ ?_;rotate_left;intro w';go_simp;with_reducible rfl;rotate_left;simp only [nS];rfl
   refine tk 0 (some 22) ?_ rfl rfl (by kernel_rfl) (fun _ _ _ h=>h) (.inl ⟨by rfl,?_⟩) hHeld ?_ ?_ ?_;rotate_left;rintro w' ⟨s0,s1,s2⟩;go_simp;with_reducible rfl;rotate_left;simp only [nS];rfl
   refine tk 2 (some 24) ?_ rfl rfl (by kernel_rfl) (fun _ _ _ h=>h) (.inl ⟨by rfl,?_⟩) hHeld ?_ ?_ ?_;rotate_left;rintro w' ⟨s0,s1,s2⟩;go_simp;with_reducible rfl;rotate_left;simp only [nS];rfl
   refine tk 5 (some 27) ?_ rfl rfl (by kernel_rfl) (fun _ _ _ h=>h) (.inl ⟨by rfl,?_⟩) hHeld ?_ ?_ ?_;rotate_left;rintro w' ⟨s0,s1,s2⟩;go_simp;with_reducible rfl;rotate_left;simp only [nS];rfl
   refine join_ (σ:=Option Addr×Nat×Option Addr×Nat×Nat) 1 #[true,true,true,true,true,true,true,true,true,false] (fun s=>[(25,.slice s.1 cs.length s.2.1),(28,.slice s.2.2.1 rs.length s.2.2.2.1),(29,.agg #[.int .i64 size,.slice s.1 cs.length s.2.1,.slice s.2.2.1 rs.length s.2.2.2.1]),(7,.pointer (some ⟨s.2.2.2.2,0,none⟩))]) (fun s w'=>ScB w w' b2 b3 b4 sz size (.slice A1 cs.length c1) (.slice A2 rs.length c2)∧w'.heap[s.2.2.2.2]?=some (.cells #[.int .i64 0,.slice none 0 0,.slice none 0 0] 25 (0,0))∧Kd.R k50 50 w' w.heap.size (fun _=>True) (.slice s.1 cs.length s.2.1) cs∧Kd.R k45 45 w' w.heap.size (fun _=>True) (.slice s.2.2.1 rs.length s.2.2.2.1) rs∧(b4<s.2.2.2.2∧b2<s.2.2.2.2∧b3<s.2.2.2.2)) ?_ ?_
   rotate_left
   ·intro hCont
    refine two_ (i:=3) (j:=8) (Ni:=some 25) (Nj:=some 7) #[true,true,true,true,true,true,false,false,false,false] #[true,true,true,false,true,true,false,false,true,false] rfl rfl rfl rfl (by kernel_rfl) (by decide) (by decide) (fun K hK=>?_) (fun K hK=>?_)
    ·skip
     refine goes_ Tryz.func62 (by kernel_rfl) rfl #[.slice A1 cs.length c1] (by rfl) rfl rfl (by simp only [List.map_toArray,List.map_cons,List.map_nil];rfl) ?_
     refine (HCC.out _ I0.out.below).mono ?_
     rintro e W1 ⟨v1,rfl,ho,hb⟩
     obtain ⟨BC,kC,rfl⟩:=Kd.R_slice ho
     have RC1:=aK (Kd.R_lower ho I0.out.below.size)
     have I1:=aK (I0.out.ofBelow hb)
     clear ho hb
     refine ⟨_,rfl,?_⟩
     refine hK.out _ _ ⟨(blk_cell I1.out.siz 0).trans rfl,(blk_cell I1.out.met 1).trans rfl,(blk_cell I1.out.met 2).trans rfl⟩ (fun hHeld=>?_)
     clear hK K
     refine norm_ (a':=?_) ?_ ?_;rotate_left;show Act.put _ (some 25) _=_;simp only [nS];rfl
     refine two_ (i:=6) (j:=8) (Ni:=some 28) (Nj:=some 7) #[true,true,true,true,true,true,true,false,false,false] #[true,true,true,true,true,true,false,false,true,false] rfl rfl rfl rfl (by kernel_rfl) (by decide) (by decide) (fun K hK=>?_) (fun K hK=>?_)
     ·skip
      refine goes_ Tryz.func63 (by kernel_rfl) rfl #[.slice A2 rs.length c2] (by rfl) rfl rfl (by simp only [List.map_toArray,List.map_cons,List.map_nil];rfl) ?_
      refine (HCR.out _ I1.out.below).mono ?_
      rintro e W2 ⟨v2,rfl,ho,hb⟩
      obtain ⟨BR,kR,rfl⟩:=Kd.R_slice ho
      have RR2:=aK (Kd.R_lower ho I1.out.below.size)
      have I2:=aK (I1.out.ofBelow hb)
      have RC2:=aK (Kd.R_below RC1.out hb)
      clear ho hb
      refine ⟨_,rfl,?_⟩
      refine hK.out _ _ ⟨(blk_cell I2.out.siz 0).trans rfl,(blk_cell I2.out.met 1).trans rfl,(blk_cell I2.out.met 2).trans rfl⟩ (fun hHeld=>?_)
      clear hK K
      refine norm_ (a':=?_) ?_ ?_;rotate_left;show Act.put _ (some 28) _=_;simp only [nS];rfl
      refine pu 7 (some 29) ?_ rfl rfl (by kernel_rfl) (fun _ _ _ h=>h) (.inl ⟨by rfl,?_⟩) ?_ ?_ ?_;rotate_left;intro w';go_simp;with_reducible rfl;rotate_left;simp only [nS];rfl
      refine one_ (i:=8) (N:=some 7) #[true,true,true,true,true,true,true,true,true,false] rfl rfl (by kernel_rfl) (by decide) (fun K hK=>?_)
      refine value_ (w1:=?_) (v:=?_) (by rfl) rfl ?_ ?_
      rotate_left 2
      ·go_simp
       constructor
       ·rfl
       ·rfl
      have X3:=aK (blk_new W2 (.cells #[.int .i64 0,.slice none 0 0,.slice none 0 0] 25))
      have I3:=aK (I2.out.ofBelow (below_alloc (Below.refl _ _) (.cells #[.int .i64 0,.slice none 0 0,.slice none 0 0] 25)))
      have HN:=aK (And.intro (blk_lt I2.out.res) (And.intro (blk_lt I2.out.met) (blk_lt I2.out.siz)))
      have RC3:=aK (Kd.R_alloc RC2.out (.cells #[.int .i64 0,.slice none 0 0,.slice none 0 0] 25))
      have RR3:=aK (Kd.R_alloc RR2.out (.cells #[.int .i64 0,.slice none 0 0,.slice none 0 0] 25))
      refine hK.out _ _ ⟨(blk_cell I3.out.siz 0).trans rfl,(blk_cell I3.out.met 1).trans rfl,(blk_cell I3.out.met 2).trans rfl⟩ (fun hHeld=>?_)
      clear hK K
      refine norm_ (a':=?_) ?_ ?_;rotate_left;show Act.put _ (some 7) _=_;simp only [nS];rfl
      exact norm_ (by simp only [putAll,Act.put,lS]) (hCont (BC,kC,BR,kR,W2.heap.size) _ ⟨I3.out,X3.out,RC3.out,RR3.out,HN.out⟩)
     ·skip
      refine value_ (w1:=?_) (v:=?_) (by rfl) rfl ?_ ?_
      rotate_left 2
      ·go_simp
       constructor
       ·rfl
       ·rfl
      have X2:=aK (blk_new W1 (.cells #[.int .i64 0,.slice none 0 0,.slice none 0 0] 25))
      have I2:=aK (I1.out.ofBelow (below_alloc (Below.refl _ _) (.cells #[.int .i64 0,.slice none 0 0,.slice none 0 0] 25)))
      have HN:=aK (And.intro (blk_lt I1.out.res) (And.intro (blk_lt I1.out.met) (blk_lt I1.out.siz)))
      have RC2:=aK (Kd.R_alloc RC1.out (.cells #[.int .i64 0,.slice none 0 0,.slice none 0 0] 25))
      refine hK.out _ _ ⟨(blk_cell I2.out.siz 0).trans rfl,(blk_cell I2.out.met 1).trans rfl,(blk_cell I2.out.met 2).trans rfl⟩ (fun hHeld=>?_)
      clear hK K
      refine norm_ (a':=?_) ?_ ?_;rotate_left;show Act.put _ (some 7) _=_;simp only [nS];rfl
      refine one_ (i:=6) (N:=some 28) #[true,true,true,true,true,true,true,false,true,false] rfl rfl (by kernel_rfl) (by decide) (fun K hK=>?_)
      refine goes_ Tryz.func63 (by kernel_rfl) rfl #[.slice A2 rs.length c2] (by rfl) rfl rfl (by simp only [List.map_toArray,List.map_cons,List.map_nil];rfl) ?_
      refine (HCR.out _ I2.out.below).mono ?_
      rintro e W3 ⟨v3,rfl,ho,hb⟩
      obtain ⟨BR,kR,rfl⟩:=Kd.R_slice ho
      have RR3:=aK (Kd.R_lower ho I2.out.below.size)
      have I3:=aK (I2.out.ofBelow hb)
      have X3:=aK (blk_below X2.out hb)
      have RC3:=aK (Kd.R_below RC2.out hb)
      clear ho hb
      refine ⟨_,rfl,?_⟩
      refine hK.out _ _ ⟨(blk_cell I3.out.siz 0).trans rfl,(blk_cell I3.out.met 1).trans rfl,(blk_cell I3.out.met 2).trans rfl⟩ (fun hHeld=>?_)
      clear hK K
      refine norm_ (a':=?_) ?_ ?_;rotate_left;show Act.put _ (some 28) _=_;simp only [nS];rfl
      refine pu 7 (some 29) ?_ rfl rfl (by kernel_rfl) (fun _ _ _ h=>h) (.inl ⟨by rfl,?_⟩) ?_ ?_ ?_;rotate_left;intro w';go_simp;with_reducible rfl;rotate_left;simp only [nS];rfl
      exact norm_ (by simp only [putAll,Act.put,lS]) (hCont (BC,kC,BR,kR,W1.heap.size) _ ⟨I3.out,X3.out,RC3.out,RR3.out,HN.out⟩)
    ·skip
     refine value_ (w1:=?_) (v:=?_) (by rfl) rfl ?_ ?_
     rotate_left 2
     ·go_simp
      constructor
      ·rfl
      ·rfl
     have X1:=aK (blk_new V4.drew (.cells #[.int .i64 0,.slice none 0 0,.slice none 0 0] 25))
     have I1:=aK (I0.out.ofBelow (below_alloc (Below.refl _ _) (.cells #[.int .i64 0,.slice none 0 0,.slice none 0 0] 25)))
     have HN:=aK (And.intro (blk_lt I0.out.res) (And.intro (blk_lt I0.out.met) (blk_lt I0.out.siz)))
     refine hK.out _ _ ⟨(blk_cell I1.out.siz 0).trans rfl,(blk_cell I1.out.met 1).trans rfl,(blk_cell I1.out.met 2).trans rfl⟩ (fun hHeld=>?_)
     clear hK K
     refine norm_ (a':=?_) ?_ ?_;rotate_left;show Act.put _ (some 7) _=_;simp only [nS];rfl
     refine one_ (i:=3) (N:=some 25) #[true,true,true,true,true,true,false,false,true,false] rfl rfl (by kernel_rfl) (by decide) (fun K hK=>?_)
     refine goes_ Tryz.func62 (by kernel_rfl) rfl #[.slice A1 cs.length c1] (by rfl) rfl rfl (by simp only [List.map_toArray,List.map_cons,List.map_nil];rfl) ?_
     refine (HCC.out _ I1.out.below).mono ?_
     rintro e W2 ⟨v2,rfl,ho,hb⟩
     obtain ⟨BC,kC,rfl⟩:=Kd.R_slice ho
     have RC2:=aK (Kd.R_lower ho I1.out.below.size)
     have I2:=aK (I1.out.ofBelow hb)
     have X2:=aK (blk_below X1.out hb)
     clear ho hb
     refine ⟨_,rfl,?_⟩
     refine hK.out _ _ ⟨(blk_cell I2.out.siz 0).trans rfl,(blk_cell I2.out.met 1).trans rfl,(blk_cell I2.out.met 2).trans rfl⟩ (fun hHeld=>?_)
     clear hK K
     refine norm_ (a':=?_) ?_ ?_;rotate_left;show Act.put _ (some 25) _=_;simp only [nS];rfl
     refine one_ (i:=6) (N:=some 28) #[true,true,true,true,true,true,true,false,true,false] rfl rfl (by kernel_rfl) (by decide) (fun K hK=>?_)
     refine goes_ Tryz.func63 (by kernel_rfl) rfl #[.slice A2 rs.length c2] (by rfl) rfl rfl (by simp only [List.map_toArray,List.map_cons,List.map_nil];rfl) ?_
     refine (HCR.out _ I2.out.below).mono ?_
     rintro e W3 ⟨v3,rfl,ho,hb⟩
     obtain ⟨BR,kR,rfl⟩:=Kd.R_slice ho
     have RR3:=aK (Kd.R_lower ho I2.out.below.size)
     have I3:=aK (I2.out.ofBelow hb)
     have X3:=aK (blk_below X2.out hb)
     have RC3:=aK (Kd.R_below RC2.out hb)
     clear ho hb
     refine ⟨_,rfl,?_⟩
     refine hK.out _ _ ⟨(blk_cell I3.out.siz 0).trans rfl,(blk_cell I3.out.met 1).trans rfl,(blk_cell I3.out.met 2).trans rfl⟩ (fun hHeld=>?_)
     clear hK K
     refine norm_ (a':=?_) ?_ ?_;rotate_left;show Act.put _ (some 28) _=_;simp only [nS];rfl
     refine pu 7 (some 29) ?_ rfl rfl (by kernel_rfl) (fun _ _ _ h=>h) (.inl ⟨by rfl,?_⟩) ?_ ?_ ?_;rotate_left;intro w';go_simp;with_reducible rfl;rotate_left;simp only [nS];rfl
     exact norm_ (by simp only [putAll,Act.put,lS]) (hCont (BC,kC,BR,kR,V4.heap.size) _ ⟨I3.out,X3.out,RC3.out,RR3.out,HN.out⟩)
   rintro ⟨A3,c3,A4,c4,b7⟩ Wx ⟨hF1,hF2,hF3,hF4,hF5⟩
   have HN:=aK (show b4<b7∧b2<b7∧b3<b7 from hF5)
   have IX:=aK hF1
   have FX:=aK (show Wx.heap[b7]?=some (.cells #[.int .i64 0,.slice none 0 0,.slice none 0 0] 25 (0,0)) from hF2)
   have RC:=aK (show Kd.R k50 50 Wx w.heap.size (fun _=>True) (.slice A3 cs.length c3) cs from hF3)
   have RR:=aK (show Kd.R k45 45 Wx w.heap.size (fun _=>True) (.slice A4 rs.length c4) rs from hF4)
   have hHeld:Wx.cell? ⟨b3,0,none⟩=some (.int .i64 size)∧Wx.cell? ⟨b2,1,none⟩=some (.slice A1 cs.length c1)∧Wx.cell? ⟨b2,2,none⟩=some (.slice A2 rs.length c2):=⟨(blk_cell IX.out.siz 0).trans rfl,(blk_cell IX.out.met 1).trans rfl,(blk_cell IX.out.met 2).trans rfl⟩
   clear hF1 hF2 hF3 hF4 hF5
   refine norm_ (a':=?_) ?_ ?_
   rotate_left
   ·simp only [putAll,Act.put,lS]
    rfl
   refine last_ (i:=9) (N:=none) #[true,true,true,true,true,true,true,true,true,true] rfl rfl (by kernel_rfl) (by decide) (fun K hK=>?_)
   have X8:=aK (blk_put (blk_put (blk_put FX.out 0 (.int .i64 size) rfl) 1 (.slice A3 cs.length c3) rfl) 2 (.slice A4 rs.length c4) rfl)
   have f0:=blk_frozen FX.out 0
   have f1:=blk_frozen FX.out 1
   have f2:=blk_frozen FX.out 2
   have f4:=(blk_cell FX.out 0).trans rfl
   have f5:=(blk_cell FX.out 1).trans rfl
   have f6:=(blk_cell FX.out 2).trans rfl
   refine skip_ (w1:=?_) (by rfl) rfl ?_ ?_
   rotate_left
   ·go_simp
    rfl
   refine hK.out _ _ ?_
   clear hK K
   refine done_ (by kernel_rfl) ?_
   have I5 : Aside0 (ScI w (((Wx.setCell ⟨b7, 0, none⟩ (.int .i64 size)).setCell ⟨b7, 1, none⟩ (.slice A3 cs.length c3)).setCell ⟨b7, 2, none⟩ (.slice A4 rs.length c4)) b2 b3 b4 b7 sz size (.slice A1 cs.length c1) (.slice A2 rs.length c2) (.slice A3 cs.length c3) (.slice A4 rs.length c4) (cs) (rs)) := ⟨⟨⟨(blk_far (blk_far (blk_far IX.out.met (Nat.ne_of_lt HN.out.2.1) (p := ⟨b7, 0, none⟩) (.int .i64 size)) (Nat.ne_of_lt HN.out.2.1) (p := ⟨b7, 1, none⟩) (.slice A3 cs.length c3)) (Nat.ne_of_lt HN.out.2.1) (p := ⟨b7, 2, none⟩) (.slice A4 rs.length c4)), (blk_far (blk_far (blk_far IX.out.siz (Nat.ne_of_lt HN.out.2.2) (p := ⟨b7, 0, none⟩) (.int .i64 size)) (Nat.ne_of_lt HN.out.2.2) (p := ⟨b7, 1, none⟩) (.slice A3 cs.length c3)) (Nat.ne_of_lt HN.out.2.2) (p := ⟨b7, 2, none⟩) (.slice A4 rs.length c4)), (blk_far (blk_far (blk_far IX.out.res (Nat.ne_of_lt HN.out.1) (p := ⟨b7, 0, none⟩) (.int .i64 size)) (Nat.ne_of_lt HN.out.1) (p := ⟨b7, 1, none⟩) (.slice A3 cs.length c3)) (Nat.ne_of_lt HN.out.1) (p := ⟨b7, 2, none⟩) (.slice A4 rs.length c4)), below_set (below_set (below_set IX.out.below (by have := HN.out; have := HLE.out; omega)) (by have := HN.out; have := HLE.out; omega)) (by have := HN.out; have := HLE.out; omega)⟩, X8.out,
    Kd.R_set (Kd.R_set (Kd.R_set RC.out FX.out (fun q hq=>by rw [opq50 q hq];decide) 0 _) (blk_put FX.out 0 _ rfl) (fun q hq=>by rw [opq50 q hq];decide) 1 _) (blk_put (blk_put FX.out 0 _ rfl) 1 _ rfl) (fun q hq=>by rw [opq50 q hq];decide) 2 _,
    Kd.R_set (Kd.R_set (Kd.R_set RR.out FX.out (fun q hq=>by rw [opq45 q hq];decide) 0 _) (blk_put FX.out 0 _ rfl) (fun q hq=>by rw [opq45 q hq];decide) 1 _) (blk_put (blk_put FX.out 0 _ rfl) 1 _ rfl) (fun q hq=>by rw [opq45 q hq];decide) 2 _⟩⟩
   generalize (((Wx.setCell ⟨b7,0,none⟩ (.int .i64 size)).setCell ⟨b7,1,none⟩ (.slice A3 cs.length c3)).setCell ⟨b7,2,none⟩ (.slice A4 rs.length c4))=V5 at *
   clear f0 f1 f2 f4 f5 f6 X8 IX FX RC RR HN I0 I2 HCC HCR hHeld
   have o1:=(blk_cell I5.out.out 1).trans rfl
   go_upto_block 0 with (fail)
   clear o1
   go_cut [] (fun wc=>Aside0 (ScI w wc b2 b3 b4 b7 sz size (.slice A1 cs.length c1) (.slice A2 rs.length c2) (.slice A3 cs.length c3) (.slice A4 rs.length c4) (cs.map (scaleC size sz)) (rs)))
   case first =>
    go_wp2_with fail
    go_loopg [33] cs.length (fun gg s33 wr=>∃ (i:Nat),i≤cs.length∧cs.length-i≤gg∧s33 = .int .i64 i∧Aside0 (ScI w wr b2 b3 b4 b7 sz size (.slice A1 cs.length c1) (.slice A2 rs.length c2) (.slice A3 cs.length c3) (.slice A4 rs.length c4) ((cs.take i).map (scaleC size sz)++cs.drop i) (rs)))
    case atStart=>exact ⟨0,by omega,by omega,rfl,⟨by simpa using I5.out⟩⟩
    case round =>
     clear I5
     obtain ⟨i,hi,hg,rfl,I⟩:=hrel
     by_cases hlt:i<cs.length
     ·have hlti:(i:Int)<(cs.length:Int):=by omega
      have hi0:(0:Int)≤(i:Int):=by omega
      have HI:=aK hlt
      have HG0:=half_get (scaleC size sz) cs ⟨0,0,0,0⟩ i hlt
      have HXR:=aK (okC_room HVR.out.2.1 i hlt)
      have hset:=half_set (scaleC size sz) cs i hlt
      have hlen:((cs.take i).map (scaleC size sz)++cs.drop i).length=cs.length:=by simp;omega
      obtain ⟨g,cap,he,-⟩:=Kd.R_form I.out.rowC (by omega)
      rw [hlen] at he
      injection he with he1 he2 he3
      subst he1 he3
      generalize hx:cs[i]=x at *
      have HSET:=aK hset
      generalize hcur:(cs.take i).map (scaleC size sz)++cs.drop i=cur at *
      have HG:=aK HG0
      have HSTEP:=aK (show wrap64 ((i:Int)+1)=((i+1:Nat):Int) by have:=HL1.out;unfold wrap64;omega)
      obtain ⟨⟨f0,f1,f2,f3⟩,-⟩:=I.out.cellsC i hlt x HG0
      clear hset hlen hcur hx HG0
      go_upto_region 8 with (fail)
      clear f0 f1 f2 f3
      have I0:=aK ((I.out.ofBelow (below_alloc (Below.refl wr.heap.size wr) (.cells #[.int .i64 x.f0,.int .i64 x.f1,.int .i64 x.f2,.int .i64 x.f3] 50))).ofBelow (below_drew1 (Below.refl _ _)))
      have Y0:=aK (blk_drew (blk_new wr (.cells #[.int .i64 x.f0,.int .i64 x.f1,.int .i64 x.f2,.int .i64 x.f3] 50)))
      generalize hb9:wr.heap.size=b9 at *
      generalize wr.alloc (.cells #[.int .i64 x.f0,.int .i64 x.f1,.int .i64 x.f2,.int .i64 x.f3] 50)=V8 at *
      clear hb9
      refine start_ (n:=20) (S:=fun w'=>w'.cell? ⟨b7,1,none⟩=some (.slice (some ⟨g,0,none⟩) cs.length c3)∧w'.cell? ⟨b9,0,none⟩=some (.int .i64 x.f0)∧w'.cell? ⟨b9,1,none⟩=some (.int .i64 x.f1)∧w'.cell? ⟨b9,2,none⟩=some (.int .i64 x.f2)∧w'.cell? ⟨b9,3,none⟩=some (.int .i64 x.f3)) (ds:=[19]) #[false,false,false,false,false,false,false,false,false,false,false,false,false,false,false,false,false,false,false,false] (by kernel_rfl) rfl rfl ⟨(blk_cell I0.out.out 1).trans rfl,(blk_cell Y0.out 0).trans rfl,(blk_cell Y0.out 1).trans rfl,(blk_cell Y0.out 2).trans rfl,(blk_cell Y0.out 3).trans rfl⟩ (fun hHeld=>?_)
      refine pu 0 (some 38) ?_ rfl rfl (by kernel_rfl) (fun _ _ _ h=>h) (.inl ⟨by rfl,?_⟩) ?_ ?_ ?_;rotate_left;intro w';go_simp;with_reducible rfl;rotate_left;simp only [nS];rfl
      refine pu 2 (some 40) ?_ rfl rfl (by kernel_rfl) (fun _ _ _ h=>h) (.inl ⟨by rfl,?_⟩) ?_ ?_ ?_;rotate_left;intro w';go_simp;with_reducible rfl;rotate_left;simp only [nS];rfl
      refine pu 3 (some 41) ?_ rfl rfl (by kernel_rfl) (fun _ _ _ h=>h) (.inl ⟨by rfl,?_⟩) ?_ ?_ ?_;rotate_left;intro w';go_simp;with_reducible rfl;rotate_left;simp only [nS];rfl
      refine pu 5 (some 43) ?_ rfl rfl (by kernel_rfl) (fun _ _ _ h=>h) (.inl ⟨by rfl,?_⟩) ?_ ?_ ?_;rotate_left;intro w';go_simp;with_reducible rfl;rotate_left;simp only [nS];rfl
      refine pu 6 (some 44) ?_ rfl rfl (by kernel_rfl) (fun _ _ _ h=>h) (.inl ⟨by rfl,?_⟩) ?_ ?_ ?_;rotate_left;intro w';go_simp;with_reducible rfl;rotate_left;simp only [nS];rfl
      refine pu 9 (some 47) ?_ rfl rfl (by kernel_rfl) (fun _ _ _ h=>h) (.inl ⟨by rfl,?_⟩) ?_ ?_ ?_;rotate_left;intro w';go_simp;with_reducible rfl;rotate_left;simp only [nS];rfl
      refine pu 10 (some 48) ?_ rfl rfl (by kernel_rfl) (fun _ _ _ h=>h) (.inl ⟨by rfl,?_⟩) ?_ ?_ ?_;rotate_left;intro w';go_simp;with_reducible rfl;rotate_left;simp only [nS];rfl
      refine pu 13 (some 51) ?_ rfl rfl (by kernel_rfl) (fun _ _ _ h=>h) (.inl ⟨by rfl,?_⟩) ?_ ?_ ?_;rotate_left;intro w';go_simp;with_reducible rfl;rotate_left;simp only [nS];rfl
      refine pu 14 (some 52) ?_ rfl rfl (by kernel_rfl) (fun _ _ _ h=>h) (.inl ⟨by rfl,?_⟩) ?_ ?_ ?_;rotate_left;intro w';go_simp;with_reducible rfl;rotate_left;simp only [nS];rfl
      refine tk 1 (some 39) ?_ rfl rfl (by kernel_rfl) (fun _ _ _ h=>h) (.inl ⟨by rfl,?_⟩) hHeld ?_ ?_ ?_;rotate_left;rintro w' ⟨s0,s1,s2,s3,s4⟩;go_simp;with_reducible rfl;rotate_left;simp only [nS];rfl
      refine tk 4 (some 42) ?_ rfl rfl (by kernel_rfl) (fun _ _ _ h=>h) (.inl ⟨by rfl,?_⟩) hHeld ?_ ?_ ?_;rotate_left;rintro w' ⟨s0,s1,s2,s3,s4⟩;go_simp;with_reducible rfl;rotate_left;simp only [nS];rfl
      refine tk 7 (some 45) ?_ rfl rfl (by kernel_rfl) (fun _ _ _ h=>h) (.inl ⟨by rfl,?_⟩) hHeld ?_ ?_ ?_;rotate_left;rintro w' ⟨s0,s1,s2,s3,s4⟩;go_simp;with_reducible rfl;rotate_left;simp only [nS];rfl
      refine tk 11 (some 49) ?_ rfl rfl (by kernel_rfl) (fun _ _ _ h=>h) (.inl ⟨by rfl,?_⟩) hHeld ?_ ?_ ?_;rotate_left;rintro w' ⟨s0,s1,s2,s3,s4⟩;go_simp;with_reducible rfl;rotate_left;simp only [nS];rfl
      refine tk 15 (some 53) ?_ rfl rfl (by kernel_rfl) (fun _ _ _ h=>h) (.inl ⟨by rfl,?_⟩) hHeld ?_ ?_ ?_;rotate_left;rintro w' ⟨s0,s1,s2,s3,s4⟩;go_simp;with_reducible rfl;rotate_left;simp only [nS];rfl
      refine one_ (i:=8) (N:=some 46) #[true,true,true,true,true,true,true,true,true,true,true,true,false,true,true,true,false,false,false,false] rfl rfl (by kernel_rfl) (by decide) (fun K hK=>?_)
      refine goesc_ #[.pointer (some ⟨b3,0,none⟩),.pointer (some ⟨b2,0,none⟩)] #[.int .i64 x.f1] #[.int .i64 x.f1,.pointer (some ⟨b3,0,none⟩),.pointer (some ⟨b2,0,none⟩)] rfl (enters_own Tryz.func61 (by kernel_rfl) rfl) (by rfl) rfl rfl (by rfl) (by simp only [List.map_toArray,List.map_cons,List.map_nil];rfl) ?_
      refine (scale1_calls x.f1 size sz b2 b3 _ _ _ I0.out.base.siz I0.out.base.met HXR.out.1 HSR.out.1 HSR.out.2).mono ?_
      rintro e Wa ⟨rfl,hb⟩
      have Ia:=aK (I0.out.ofBelow hb)
      have Ya:=aK (blk_below Y0.out hb)
      clear hb
      refine ⟨_,rfl,?_⟩
      refine hK.out _ _ ⟨(blk_cell Ia.out.out 1).trans rfl,(blk_cell Ya.out 0).trans rfl,(blk_cell Ya.out 1).trans rfl,(blk_cell Ya.out 2).trans rfl,(blk_cell Ya.out 3).trans rfl⟩ (fun hHeld=>?_)
      clear hK K
      refine norm_ (a':=?_) ?_ ?_;rotate_left;show Act.put _ (some 46) _=_;simp only [nS];rfl
      refine one_ (i:=12) (N:=some 50) #[true,true,true,true,true,true,true,true,true,true,true,true,true,true,true,true,false,false,false,false] rfl rfl (by kernel_rfl) (by decide) (fun K hK=>?_)
      refine goesc_ #[.pointer (some ⟨b3,0,none⟩),.pointer (some ⟨b2,0,none⟩)] #[.int .i64 x.f2] #[.int .i64 x.f2,.pointer (some ⟨b3,0,none⟩),.pointer (some ⟨b2,0,none⟩)] rfl (enters_own Tryz.func61 (by kernel_rfl) rfl) (by rfl) rfl rfl (by rfl) (by simp only [List.map_toArray,List.map_cons,List.map_nil];rfl) ?_
      refine (scale1_calls x.f2 size sz b2 b3 _ _ _ Ia.out.base.siz Ia.out.base.met HXR.out.2.1 HSR.out.1 HSR.out.2).mono ?_
      rintro e Wb ⟨rfl,hb⟩
      have Ib:=aK (Ia.out.ofBelow hb)
      have Yb:=aK (blk_below Ya.out hb)
      clear hb
      refine ⟨_,rfl,?_⟩
      refine hK.out _ _ ⟨(blk_cell Ib.out.out 1).trans rfl,(blk_cell Yb.out 0).trans rfl,(blk_cell Yb.out 1).trans rfl,(blk_cell Yb.out 2).trans rfl,(blk_cell Yb.out 3).trans rfl⟩ (fun hHeld=>?_)
      clear hK K
      refine norm_ (a':=?_) ?_ ?_;rotate_left;show Act.put _ (some 50) _=_;simp only [nS];rfl
      refine one_ (i:=16) (N:=some 54) #[true,true,true,true,true,true,true,true,true,true,true,true,true,true,true,true,true,false,false,false] rfl rfl (by kernel_rfl) (by decide) (fun K hK=>?_)
      refine goesc_ #[.pointer (some ⟨b3,0,none⟩),.pointer (some ⟨b2,0,none⟩)] #[.int .i64 x.f3] #[.int .i64 x.f3,.pointer (some ⟨b3,0,none⟩),.pointer (some ⟨b2,0,none⟩)] rfl (enters_own Tryz.func61 (by kernel_rfl) rfl) (by rfl) rfl rfl (by rfl) (by simp only [List.map_toArray,List.map_cons,List.map_nil];rfl) ?_
      refine (scale1_calls x.f3 size sz b2 b3 _ _ _ Ib.out.base.siz Ib.out.base.met HXR.out.2.2 HSR.out.1 HSR.out.2).mono ?_
      rintro e Wc ⟨rfl,hb⟩
      have Ic:=aK (Ib.out.ofBelow hb)
      have Yc:=aK (blk_below Yb.out hb)
      clear hb
      refine ⟨_,rfl,?_⟩
      refine hK.out _ _ ⟨(blk_cell Ic.out.out 1).trans rfl,(blk_cell Yc.out 0).trans rfl,(blk_cell Yc.out 1).trans rfl,(blk_cell Yc.out 2).trans rfl,(blk_cell Yc.out 3).trans rfl⟩ (fun hHeld=>?_)
      clear hK K
      refine norm_ (a':=?_) ?_ ?_;rotate_left;show Act.put _ (some 54) _=_;simp only [nS];rfl
      refine pu 17 (some 55) ?_ rfl rfl (by kernel_rfl) (fun _ _ _ h=>h) (.inl ⟨by rfl,?_⟩) ?_ ?_ ?_;rotate_left;intro w';go_simp;with_reducible rfl;rotate_left;simp only [nS];rfl
      refine pu 18 (some 56) ?_ rfl rfl (by kernel_rfl) (fun _ _ _ h=>h) (.inl ⟨by rfl,?_⟩) ?_ ?_ ?_;rotate_left;intro w';go_simp;with_reducible rfl;rotate_left;simp only [nS];rfl
      refine last_ (i:=19) (N:=none) #[true,true,true,true,true,true,true,true,true,true,true,true,true,true,true,true,true,true,true,true] rfl rfl (by kernel_rfl) (by decide) (fun K hK=>?_)
      obtain ⟨⟨f0,f1,f2,f3⟩,f4,f5,f6,f7⟩:=Ic.out.cellsC i HI.out x HG.out
      refine skip_ (w1:=?_) (by rfl) rfl ?_ ?_
      rotate_left
      ·go_simp
       rfl
      refine hK.out _ _ ?_
      clear hK K
      refine done_ (by kernel_rfl) ?_
      have I9:=aK (Ic.out.four i HI.out (scaleC size sz x))
      rw [HSET.out] at I9
      clear f0 f1 f2 f3 f4 f5 f6 f7 Ia Ib Ic Ya Yb Yc I0 Y0 I HSET
      go_wp2
      go_roundg (cs.length-(i+1))
      case measure=>omega
      case rel=>exact ⟨i+1,by omega,by omega,by first|exact congrArg (Value.int .i64) HSTEP.out|go_num,I9⟩
     ·have hlti : ¬ (i:Int)<(cs.length:Int):=by omega
      obtain rfl:i=cs.length:=by omega
      go_wp2
      go_meet
      case rel=>exact ⟨by simpa using I.out⟩
   case rest =>
    have I6:=hcut
    clear I5 hHeld
    have o1:=(blk_cell I6.out.out 2).trans rfl
    go_upto_block 2 with (fail)
    clear o1
    go_cut [] (fun wc=>Aside0 (ScI w wc b2 b3 b4 b7 sz size (.slice A1 cs.length c1) (.slice A2 rs.length c2) (.slice A3 cs.length c3) (.slice A4 rs.length c4) (cs.map (scaleC size sz)) (rs.map (scaleR size sz))))
    case first =>
     go_wp2_with fail
     go_loopg [61] rs.length (fun gg s61 wr=>∃ (i:Nat),i≤rs.length∧rs.length-i≤gg∧s61 = .int .i64 i∧Aside0 (ScI w wr b2 b3 b4 b7 sz size (.slice A1 cs.length c1) (.slice A2 rs.length c2) (.slice A3 cs.length c3) (.slice A4 rs.length c4) (cs.map (scaleC size sz)) ((rs.take i).map (scaleR size sz)++rs.drop i)))
     case atStart=>exact ⟨0,by omega,by omega,rfl,⟨by simpa using I6.out⟩⟩
     case round =>
      clear I6
      obtain ⟨i,hi,hg,rfl,I⟩:=hrel
      by_cases hlt:i<rs.length
      ·have hlti:(i:Int)<(rs.length:Int):=by omega
       have hi0:(0:Int)≤(i:Int):=by omega
       have HI:=aK hlt
       have HG0:=half_get (scaleR size sz) rs ⟨0,0,0,0⟩ i hlt
       have HXR0:=aK (okR_room HVR.out.2.2 i hlt)
       have hset:=half_set (scaleR size sz) rs i hlt
       have hlen:((rs.take i).map (scaleR size sz)++rs.drop i).length=rs.length:=by simp;omega
       obtain ⟨g,cap,he,-⟩:=Kd.R_form I.out.rowR (by omega)
       rw [hlen] at he
       injection he with he1 he2 he3
       subst he1 he3
       generalize hx:rs[i]=x at *
       have HSET:=aK hset
       generalize hcur:(rs.take i).map (scaleR size sz)++rs.drop i=cur at *
       have HG:=aK HG0
       have HSTEP:=aK (show wrap64 ((i:Int)+1)=((i+1:Nat):Int) by have:=HL2.out;unfold wrap64;omega)
       obtain ⟨⟨f0,f1,f2,f3⟩,-⟩:=I.out.cellsR i hlt x HG0
       clear hset hlen hcur hx HG0
       have Y0a:=aK (blk_new wr (.cells #[.int .i64 x.f0,.int .i64 x.f1,.int .i64 x.f2,.int .i64 x.f3] 45))
       by_cases h0:x.f2=0
       ·have hz:(x.f2 == 0)=true:=by simpa using h0
        have HXR:=aK (HXR0.out h0)
        have H0:=aK h0
        clear h0
        go_upto_region 14 with (fail)
        clear f0 f1 f2 f3
        have I0:=aK ((I.out.ofBelow (below_alloc (Below.refl wr.heap.size wr) (.cells #[.int .i64 x.f0,.int .i64 x.f1,.int .i64 x.f2,.int .i64 x.f3] 45))).ofBelow (below_drew1 (Below.refl _ _)))
        have Y0:=aK (blk_drew Y0a.out)
        generalize hb9:wr.heap.size=b9 at *
        generalize wr.alloc (.cells #[.int .i64 x.f0,.int .i64 x.f1,.int .i64 x.f2,.int .i64 x.f3] 45)=V8 at *
        clear hb9
        refine start_ (n:=10) (S:=fun w'=>w'.cell? ⟨b7,2,none⟩=some (.slice (some ⟨g,0,none⟩) rs.length c4)∧w'.cell? ⟨b9,3,none⟩=some (.int .i64 x.f3)) (ds:=[9]) #[false,false,false,false,false,false,false,false,false,false] (by kernel_rfl) rfl rfl ⟨(blk_cell I0.out.out 2).trans rfl,(blk_cell Y0.out 3).trans rfl⟩ (fun hHeld=>?_)
        refine pu 0 (some 69) ?_ rfl rfl (by kernel_rfl) (fun _ _ _ h=>h) (.inl ⟨by rfl,?_⟩) ?_ ?_ ?_;rotate_left;intro w';go_simp;with_reducible rfl;rotate_left;simp only [nS];rfl
        refine pu 2 (some 71) ?_ rfl rfl (by kernel_rfl) (fun _ _ _ h=>h) (.inl ⟨by rfl,?_⟩) ?_ ?_ ?_;rotate_left;intro w';go_simp;with_reducible rfl;rotate_left;simp only [nS];rfl
        refine pu 3 (some 72) ?_ rfl rfl (by kernel_rfl) (fun _ _ _ h=>h) (.inl ⟨by rfl,?_⟩) ?_ ?_ ?_;rotate_left;intro w';go_simp;with_reducible rfl;rotate_left;simp only [nS];rfl
        refine pu 4 (some 73) ?_ rfl rfl (by kernel_rfl) (fun _ _ _ h=>h) (.inl ⟨by rfl,?_⟩) ?_ ?_ ?_;rotate_left;intro w';go_simp;with_reducible rfl;rotate_left;simp only [nS];rfl
        refine tk 1 (some 70) ?_ rfl rfl (by kernel_rfl) (fun _ _ _ h=>h) (.inl ⟨by rfl,?_⟩) hHeld ?_ ?_ ?_;rotate_left;rintro w' ⟨s0,s1⟩;go_simp;with_reducible rfl;rotate_left;simp only [nS];rfl
        refine tk 5 (some 74) ?_ rfl rfl (by kernel_rfl) (fun _ _ _ h=>h) (.inl ⟨by rfl,?_⟩) hHeld ?_ ?_ ?_;rotate_left;rintro w' ⟨s0,s1⟩;go_simp;with_reducible rfl;rotate_left;simp only [nS];rfl
        refine one_ (i:=6) (N:=some 75) #[true,true,true,true,true,true,true,false,false,false] rfl rfl (by kernel_rfl) (by decide) (fun K hK=>?_)
        refine goesc_ #[.pointer (some ⟨b3,0,none⟩),.pointer (some ⟨b2,0,none⟩)] #[.int .i64 x.f3] #[.int .i64 x.f3,.pointer (some ⟨b3,0,none⟩),.pointer (some ⟨b2,0,none⟩)] rfl (enters_own Tryz.func61 (by kernel_rfl) rfl) (by rfl) rfl rfl (by rfl) (by simp only [List.map_toArray,List.map_cons,List.map_nil];rfl) ?_
        refine (scale1_calls x.f3 size sz b2 b3 _ _ _ I0.out.base.siz I0.out.base.met HXR.out HSR.out.1 HSR.out.2).mono ?_
        rintro e Wa ⟨rfl,hb⟩
        have Ia:=aK (I0.out.ofBelow hb)
        have Ya:=aK (blk_below Y0.out hb)
        clear hb
        refine ⟨_,rfl,?_⟩
        refine hK.out _ _ ⟨(blk_cell Ia.out.out 2).trans rfl,(blk_cell Ya.out 3).trans rfl⟩ (fun hHeld=>?_)
        clear hK K
        refine norm_ (a':=?_) ?_ ?_;rotate_left;show Act.put _ (some 75) _=_;simp only [nS];rfl
        refine pu 7 (some 76) ?_ rfl rfl (by kernel_rfl) (fun _ _ _ h=>h) (.inl ⟨by rfl,?_⟩) ?_ ?_ ?_;rotate_left;intro w';go_simp;with_reducible rfl;rotate_left;simp only [nS];rfl
        refine pu 8 (some 77) ?_ rfl rfl (by kernel_rfl) (fun _ _ _ h=>h) (.inl ⟨by rfl,?_⟩) ?_ ?_ ?_;rotate_left;intro w';go_simp;with_reducible rfl;rotate_left;simp only [nS];rfl
        refine last_ (i:=9) (N:=none) #[true,true,true,true,true,true,true,true,true,true] rfl rfl (by kernel_rfl) (by decide) (fun K hK=>?_)
        obtain ⟨⟨f0,f1,f2,f3⟩,f4,f5,f6,f7⟩:=Ia.out.cellsR i HI.out x HG.out
        refine skip_ (w1:=?_) (by rfl) rfl ?_ ?_
        rotate_left
        ·go_simp
         rfl
        refine hK.out _ _ ?_
        clear hK K
        refine done_ (by kernel_rfl) ?_
        have I9:=aK (Ia.out.one i HI.out x (scaleV x.f3 size sz) HG.out)
        have hsx:scaleR size sz x=⟨x.f0,x.f1,x.f2,scaleV x.f3 size sz⟩:=by unfold scaleR;rw [if_pos H0.out]
        rw [← hsx,HSET.out] at I9
        clear f0 f1 f2 f3 f4 f5 f6 f7 Ia Ya I0 Y0 I HSET hsx
        go_wp2
        go_roundg (rs.length-(i+1))
        case measure=>omega
        case rel=>exact ⟨i+1,by omega,by omega,by first|exact congrArg (Value.int .i64) HSTEP.out|go_num,I9⟩
       ·have hz:(x.f2 == 0)=false:=by simpa using h0
        have I9:=aK (I.out.ofBelow (below_alloc (Below.refl wr.heap.size wr) (.cells #[.int .i64 x.f0,.int .i64 x.f1,.int .i64 x.f2,.int .i64 x.f3] 45)))
        have hsx:scaleR size sz x=x:=by unfold scaleR;rw [if_neg h0]
        have HSX:=aK hsx
        clear hsx
        have HCUR:Aside0 (cur.set i x=cur):=⟨by
         rw [← HG.out]
         apply List.ext_getElem?
         intro j
         rw [List.getElem?_set]
         split
         ·rename_i h
          subst h
          split
          ·rename_i h
           rw [List.getD_eq_getElem?_getD,List.getElem?_eq_getElem h]
           rfl
          ·rename_i h
           rw [List.getElem?_eq_none (by omega)]
         ·rfl⟩
        rw [HSX.out,HCUR.out] at HSET
        go_wp2
        go_roundg (rs.length-(i+1))
        case measure=>omega
        case rel=>exact ⟨i+1,by omega,by omega,by first|exact congrArg (Value.int .i64) HSTEP.out|go_num,⟨by rw [← HSET.out];exact I9.out⟩⟩
      ·have hlti : ¬ (i:Int)<(rs.length:Int):=by omega
       obtain rfl:i=rs.length:=by omega
       go_wp2
       go_meet
       case rel=>exact ⟨by simpa using I.out⟩
    case rest =>
     have I7:=hcut
     clear I6
     have p0:=(blk_cell I7.out.out 0).trans rfl
     have p1:=(blk_cell I7.out.out 1).trans rfl
     have p2:=(blk_cell I7.out.out 2).trans rfl
     have hq3:=Kd.R_reads' I7.out.rowC
     have hq4:=Kd.R_reads' I7.out.rowR
     have hc:Calls Tryz.prog 13 #[.agg #[.int .i64 size,.slice A3 cs.length c3,.slice A4 rs.length c4]] wc fun e w'=>e = .returned (.bool (validM size (cs.map (scaleC size sz)) (rs.map (scaleR size sz))))∧Below wc.heap.size wc w':=by
      have h:=valid_calls size A3 c3 (cs.map (scaleC size sz)) A4 c4 (rs.map (scaleR size sz)) wc hq3.2.2 hq4.2.2 (by have:=HL1.out;rw [List.length_map];omega) (by have:=HL2.out;rw [List.length_map];omega)
      rw [List.length_map,List.length_map] at h
      exact h
     clear hq3 hq4
     generalize cs.map (scaleC size sz)=cs2 at *
     generalize rs.map (scaleR size sz)=rs2 at *
     cases hv2:validM size cs2 rs2 with
     | false =>
      rw [hv2] at hc
      have HO:Aside0 (r=(0,[],[],17)):=⟨by rw [HF3.out,hv2,if_neg (by decide)]⟩
      clear hv2 HF3
      go_wp2_with fail
      refine hc.mono ?_
      clear hc p0 p1 p2
      rintro e W8 ⟨rfl,hb8⟩
      have I8:=aK (I7.out.ofBelow hb8)
      clear hb8 I7
      have q0:=blk_frozen I8.out.base.res 0
      have q1:=blk_frozen I8.out.base.res 1
      have q2:=blk_frozen I8.out.base.res 2
      have q3:=(blk_cell I8.out.base.res 0).trans rfl
      have q4:=(blk_cell I8.out.base.res 1).trans rfl
      have q5:=(blk_cell I8.out.base.res 2).trans rfl
      have X3:=aK (blk_put (blk_put (blk_put I8.out.base.res 0 (.int .i64 0) rfl) 1 (.slice none 0 0) rfl) 2 (.slice none 0 0) rfl)
      go_wp2
      refine bodyPost_ret (results_ct rfl _ _ b4 25 #[.int .i64 0,.slice none 0 0,.slice none 0 0] (0,0) _ rfl X3.out Tryz.underlying25 rfl (by kernel_rfl)) rfl ?_
      rw [HO.out]
      exact ⟨.slice none 0 0,.slice none 0 0,rfl,Kd.R_nil _ _ _ _ _,Kd.R_nil _ _ _ _ _,below_set (below_set (below_set I8.out.base.below HLE.out) HLE.out) HLE.out⟩
     | true =>
      rw [hv2] at hc
      have HO:Aside0 (r=(size,cs2,rs2,0)):=⟨by rw [HF3.out,hv2,if_pos rfl]⟩
      clear hv2 HF3
      go_wp2_with fail
      refine hc.mono ?_
      clear hc p0 p1 p2
      rintro e W8 ⟨rfl,hb8⟩
      have I8:=aK (I7.out.ofBelow hb8)
      clear hb8 I7
      have g0:=(blk_cell I8.out.out 0).trans rfl
      have g1:=(blk_cell I8.out.out 1).trans rfl
      have g2:=(blk_cell I8.out.out 2).trans rfl
      have q0:=blk_frozen I8.out.base.res 0
      have q1:=blk_frozen I8.out.base.res 1
      have q2:=blk_frozen I8.out.base.res 2
      have q3:=(blk_cell I8.out.base.res 0).trans rfl
      have q4:=(blk_cell I8.out.base.res 1).trans rfl
      have q5:=(blk_cell I8.out.base.res 2).trans rfl
      have X3:=aK (blk_put (blk_put (blk_put I8.out.base.res 0 (.int .i64 size) rfl) 1 (.slice A3 cs.length c3) rfl) 2 (.slice A4 rs.length c4) rfl)
      have X2:=aK (blk_put (blk_put I8.out.base.res 0 (.int .i64 size) rfl) 1 (.slice A3 cs.length c3) rfl)
      have X1:=aK (blk_put I8.out.base.res 0 (.int .i64 size) rfl)
      go_wp2
      refine bodyPost_ret (results_ct rfl _ _ b4 25 #[.int .i64 size,.slice A3 cs.length c3,.slice A4 rs.length c4] (0,0) _ rfl X3.out Tryz.underlying25 rfl (by kernel_rfl)) rfl ?_
      rw [HO.out]
      exact ⟨.slice A3 cs.length c3, .slice A4 rs.length c4, rfl,
       Kd.R_set (Kd.R_set (Kd.R_set I8.out.rowC I8.out.base.res (fun q hq=>by rw [opq50 q hq];decide) 0 _) X1.out (fun q hq=>by rw [opq50 q hq];decide) 1 _) X2.out (fun q hq=>by rw [opq50 q hq];decide) 2 _,
       Kd.R_set (Kd.R_set (Kd.R_set I8.out.rowR I8.out.base.res (fun q hq=>by rw [opq45 q hq];decide) 0 _) X1.out (fun q hq=>by rw [opq45 q hq];decide) 1 _) X2.out (fun q hq=>by rw [opq45 q hq];decide) 2 _,
       below_set (below_set (below_set I8.out.base.below HLE.out) HLE.out) HLE.out⟩
end Go.Proofs.YtoemkemmiikhlaaGreat.PF4
