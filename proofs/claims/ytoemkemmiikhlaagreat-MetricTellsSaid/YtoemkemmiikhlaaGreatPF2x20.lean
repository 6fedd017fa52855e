import Derived.Test.YtoemkemmiikhlaaGreatPF2x0
import Derived.Test.YtoemkemmiikhlaaGreatPF2x3
import Derived.Test.YtoemkemmiikhlaaGreatPF2x5
import Derived.Test.YtoemkemmiikhlaaGreatPF2x7
import Derived.Test.YtoemkemmiikhlaaGreatPF2x19
set_option maxRecDepth 100000
namespace Go.Proofs.YtoemkemmiikhlaaGreat.PF2
open Go.RowKit Go.Proofs.YtoemkemmiikhlaaGreatW.PrintWords Go.Proofs.YtoemkemmiikhlaaGreatW.PrintLast Go.Proofs.YtoemkemmiikhlaaGreatW.PrintMore
attribute [local go_sem] max2_int min2_int max_two min_two max_three min_three max_four min_four
set_option linter.unusedVariables false
set_option linter.unusedSimpArgs false
def ruleL (q:Int×Int×Int×Int×Bool):Int×Int×Int×Int×Int:=if q.2.2.2.2 then (q.1,q.2.1,q.2.2.1,q.2.2.2.1,0) else (0,0,0,0,4)
def fleuronref27_Rule.f (k:Nat) (a:Int) (cs:List S50) (rs:List S45) (m n:Int):Option (Int×Int×Int×Int×Int):=if cs.length≤1000000∧rs.length≤1000000 then some (if validM a cs rs then ruleL (forL rs m n) else (0,0,0,0,2)) else none
set_option maxHeartbeats 8000000 in
theorem fleuronref27_Rule.calls (k : Nat) (a : Int) (A1 : Option Addr) (c1 : Nat) (cs : List S50) (A2 : Option Addr) (c2 : Nat) (rs : List S45) (m n : Int) (r1 r2 r3 r4 r5 : Int) (w : World) (hr1 : Kd.C k50 w A1 cs.length cs) (hc1 : cs.length ≤ c1) (hr2 : Kd.C k45 w A2 rs.length rs) (hc2 : rs.length ≤ c2) (h : fleuronref27_Rule.f k a cs rs m n = some (r1, r2, r3, r4, r5)) :
  Calls Tryz.prog 23 #[.agg #[.int .i64 a,.slice A1 cs.length c1,.slice A2 rs.length c2],.int .i64 m,.int .i64 n] w fun e w'=>e = .returned (.tuple #[.agg #[.int .i64 r1,.int .i64 r2,.int .i64 r3,.int .i64 r4],.int .i64 r5])∧Below w.heap.size w w':=by
 have hu:=Tryz.underlying25
 have hu45:=Tryz.underlying45
 obtain ⟨⟨hl,hl2⟩,hq⟩:(cs.length≤1000000∧rs.length≤1000000)∧(if validM a cs rs then ruleL (forL rs m n) else (0,0,0,0,2))=(r1,r2,r3,r4,r5):=by
  unfold fleuronref27_Rule.f at h
  by_cases h1:cs.length≤1000000∧rs.length≤1000000
  ·rw [if_pos h1] at h;exact ⟨h1,Option.some.inj h⟩
  ·rw [if_neg h1] at h;cases h
 have hc:=fun V (h1:Below w.heap.size w V)=>fleuronref27_Valid.calls 1 a A1 c1 cs A2 c2 rs (validM a cs rs) V (Kd.C_below hr1 h1) hc1 (Kd.C_below hr2 h1) hc2 (by unfold fleuronref27_Valid.f;rw [if_pos ⟨hl,hl2⟩])
 have HFO:=aK (fun V (h1:Below w.heap.size w V) q1 q2 q3 q4 q5 (hq:forL rs m n=(q1,q2,q3,q4,q5))=>fleuronref27_For.calls 1 A2 c2 rs m n q1 q2 q3 q4 q5 V (Kd.C_below hr2 h1) hc2 (by unfold fleuronref27_For.f;rw [if_pos hl2,hq]))
 obtain ⟨b3,hb3⟩ : ∃ b,b=w.heap.size:=⟨_,rfl⟩
 obtain ⟨b6,hb6⟩ : ∃ b,b=w.heap.size+1:=⟨_,rfl⟩
 have hx:=blk_new (w.alloc (.cells #[.int .i64 a,.slice A1 cs.length c1,.slice A2 rs.length c2] 25)) (.cells #[.int .i64 0,.int .i64 0,.int .i64 0,.int .i64 0] 45)
 simp only [World.size_alloc] at hx
 rw [← hb6] at hx
 have HX:=aK hx
 have hm:=blk_alloc (blk_new w (.cells #[.int .i64 a,.slice A1 cs.length c1,.slice A2 rs.length c2] 25)) (.cells #[.int .i64 0,.int .i64 0,.int .i64 0,.int .i64 0] 45)
 rw [← hb3] at hm
 have HM:=aK hm
 have HB:=aK (below_alloc (below_alloc (Below.refl w.heap.size w) (.cells #[.int .i64 a,.slice A1 cs.length c1,.slice A2 rs.length c2] 25)) (.cells #[.int .i64 0,.int .i64 0,.int .i64 0,.int .i64 0] 45))
 have HLE:Aside0 (w.heap.size≤b6):=⟨by omega⟩
 have HBE:=aK (And.intro hb3 hb6)
 have HQ:=aK hq
 clear h hl hl2 hr1 hr2 hc1 hc2 hb3 hb6 hx hm hq
 go_enter Tryz.func23,Tryz.ntmps23
 go_upto_region 1 with (fail)
 rw [← HBE.out.2,← HBE.out.1]
 generalize (w.alloc (.cells #[.int .i64 a,.slice A1 cs.length c1,.slice A2 rs.length c2] 25)).alloc (.cells #[.int .i64 0,.int .i64 0,.int .i64 0,.int .i64 0] 45)=V at *
 have p0:=(blk_cell HM.out 0).trans rfl
 have p1:=(blk_cell HM.out 1).trans rfl
 have p2:=(blk_cell HM.out 2).trans rfl
 replace hc:=hc V HB.out
 cases hv:validM a cs rs with
 | false =>
  rw [hv] at hc HQ
  clear hv
  go_wp2_with fail
  refine hc.mono ?_
  clear hc p0 p1 p2
  rintro e W1 ⟨rfl,hb⟩
  have HB1:=aK (below_step HB.out hb)
  have HX1:=aK (blk_below HX.out hb)
  have HQ1:Aside0 ((0,0,0,0,2)=(r1,r2,r3,r4,r5)):=⟨HQ.out⟩
  clear hb HB HX HM HQ
  have q0:=blk_frozen HX1.out 0
  have q4:=(blk_cell HX1.out 0).trans rfl
  have q1:=blk_frozen HX1.out 1
  have q5:=(blk_cell HX1.out 1).trans rfl
  have q2:=blk_frozen HX1.out 2
  have q6:=(blk_cell HX1.out 2).trans rfl
  have q3:=blk_frozen HX1.out 3
  have q7:=(blk_cell HX1.out 3).trans rfl
  have X4:=aK (blk_put (blk_put (blk_put (blk_put HX1.out 0 (.int .i64 0) rfl) 1 (.int .i64 0) rfl) 2 (.int .i64 0) rfl) 3 (.int .i64 0) rfl)
  go_wp2
  obtain ⟨rfl,rfl,rfl,rfl,rfl⟩:0=r1∧0=r2∧0=r3∧0=r4∧2=r5:=by simpa using HQ1.out
  refine bodyPost_ret (results_ct rfl _ _ b6 45 #[.int .i64 0,.int .i64 0,.int .i64 0,.int .i64 0] (0,0) _ rfl X4.out Tryz.underlying45 rfl (by kernel_rfl)) rfl ?_
  exact ⟨rfl,below_set (below_set (below_set (below_set HB1.out HLE.out) HLE.out) HLE.out) HLE.out⟩
 | true =>
 rw [hv] at hc HQ
 clear hv
 go_wp2_with fail
 refine hc.mono ?_
 clear hc p0 p1 p2
 rintro e W1 ⟨rfl,hb⟩
 have HB0:=aK (below_step HB.out hb)
 have HX0:=aK (blk_below HX.out hb)
 have HM0:=aK (blk_below HM.out hb)
 clear hb HB HX HM HBE
 have p2:=(blk_cell HM0.out 2).trans rfl
 have hfo:=HFO.out W1 HB0.out
 generalize forL rs m n=q at *
 obtain ⟨t1,t2,t3,t4,t5⟩:=q
 replace hfo:=hfo t1 t2 t3 t4 t5 rfl
 have HQ0:Aside0 (ruleL (t1,t2,t3,t4,t5)=(r1,r2,r3,r4,r5)):=⟨HQ.out⟩
 clear HFO HQ
 go_wp2_with fail
 refine hfo.mono ?_
 clear hfo p2
 rintro e W2 ⟨rfl,hb⟩
 have hb2:=below_alloc hb (.cells #[.int .i64 t1,.int .i64 t2,.int .i64 t3,.int .i64 t4] 45)
 have HB1:=aK (below_step HB0.out hb2)
 have HX1:=aK (blk_below HX0.out hb2)
 have Y1:=aK (blk_new W2 (.cells #[.int .i64 t1,.int .i64 t2,.int .i64 t3,.int .i64 t4] 45))
 clear hb hb2 HB0 HX0 HM0
 go_upto_region 4 with (fail)
 generalize W2.heap.size=b8 at *
 generalize W2.alloc (.cells #[.int .i64 t1,.int .i64 t2,.int .i64 t3,.int .i64 t4] 45)=V2 at *
 cases t5 with
 | false =>
  have HQ1:Aside0 ((0,0,0,0,4)=(r1,r2,r3,r4,r5)):=⟨HQ0.out⟩
  clear HQ0
  have q0:=blk_frozen HX1.out 0
  have q4:=(blk_cell HX1.out 0).trans rfl
  have q1:=blk_frozen HX1.out 1
  have q5:=(blk_cell HX1.out 1).trans rfl
  have q2:=blk_frozen HX1.out 2
  have q6:=(blk_cell HX1.out 2).trans rfl
  have q3:=blk_frozen HX1.out 3
  have q7:=(blk_cell HX1.out 3).trans rfl
  have X4:=aK (blk_put (blk_put (blk_put (blk_put HX1.out 0 (.int .i64 0) rfl) 1 (.int .i64 0) rfl) 2 (.int .i64 0) rfl) 3 (.int .i64 0) rfl)
  go_wp2
  obtain ⟨rfl,rfl,rfl,rfl,rfl⟩:0=r1∧0=r2∧0=r3∧0=r4∧4=r5:=by simpa using HQ1.out
  refine bodyPost_ret (results_ct rfl _ _ b6 45 #[.int .i64 0,.int .i64 0,.int .i64 0,.int .i64 0] (0,0) _ rfl X4.out Tryz.underlying45 rfl (by kernel_rfl)) rfl ?_
  exact ⟨rfl,below_set (below_set (below_set (below_set HB1.out HLE.out) HLE.out) HLE.out) HLE.out⟩
 | true =>
  have HQ1:Aside0 ((t1,t2,t3,t4,0)=(r1,r2,r3,r4,r5)):=⟨HQ0.out⟩
  have y0:=(blk_cell Y1.out 0).trans rfl
  have y1:=(blk_cell Y1.out 1).trans rfl
  have y2:=(blk_cell Y1.out 2).trans rfl
  have y3:=(blk_cell Y1.out 3).trans rfl
  clear HQ0
  have q0:=blk_frozen HX1.out 0
  have q4:=(blk_cell HX1.out 0).trans rfl
  have q1:=blk_frozen HX1.out 1
  have q5:=(blk_cell HX1.out 1).trans rfl
  have q2:=blk_frozen HX1.out 2
  have q6:=(blk_cell HX1.out 2).trans rfl
  have q3:=blk_frozen HX1.out 3
  have q7:=(blk_cell HX1.out 3).trans rfl
  have X4:=aK (blk_put (blk_put (blk_put (blk_put HX1.out 0 (.int .i64 t1) rfl) 1 (.int .i64 t2) rfl) 2 (.int .i64 t3) rfl) 3 (.int .i64 t4) rfl)
  go_wp2
  obtain ⟨rfl,rfl,rfl,rfl,rfl⟩:t1=r1∧t2=r2∧t3=r3∧t4=r4∧0=r5:=by simpa using HQ1.out
  refine bodyPost_ret (results_ct rfl _ _ b6 45 #[.int .i64 t1,.int .i64 t2,.int .i64 t3,.int .i64 t4] (0,0) _ rfl X4.out Tryz.underlying45 rfl (by kernel_rfl)) rfl ?_
  exact ⟨rfl,below_set (below_set (below_set (below_set HB1.out HLE.out) HLE.out) HLE.out) HLE.out⟩
def fleuronref16_Floor.f (a0:Int) (a1:Int):Option (Int):=if a1=0 then (none) else (if (Int.tmod a0 a1)<0 then (some (wrap64 ((wrap64 (Int.tdiv a0 a1))-1))) else (some (wrap64 (Int.tdiv a0 a1))))
set_option maxHeartbeats 8000000 in
theorem fleuronref16_Floor.calls (a0 : Int) (a1 : Int) (r : Int) (w : World) (h : fleuronref16_Floor.f a0 a1 = some r) :
  Calls Tryz.prog 64 #[.int .i64 a0,.int .i64 a1] w fun e w'=>e = .returned (.int .i64 r)∧Drawn0 w w':=by
 have H:(if a1=0 then (none) else (if (Int.tmod a0 a1)<0 then (some (wrap64 ((wrap64 (Int.tdiv a0 a1))-1))) else (some (wrap64 (Int.tdiv a0 a1)))))=some r:=h
 clear h
 by_cases c3:a1=0
 ·rw [if_pos c3] at H
  exact absurd H (by simp)
 ·rw [if_neg c3] at H
  have c3b0:(a1 == 0)=false:=beq_eq_false_iff_ne.mpr c3
  have c3b1:(a1 != 0)=true:=bne_iff_ne.mpr c3
  by_cases c4:(Int.tmod a0 a1)<0
  ·rw [if_pos c4] at H
   have c4b0:decide ((Int.tmod a0 a1)<0)=true:=decide_eq_true c4
   clear c4
   obtain rfl:=Option.some.inj H
   go_enter Tryz.func64,Tryz.ntmps64
   go_wp2
   go_ret
   exact ⟨by first|rfl|(simp;done)|(simp [*];done),by repeat (first|exact Drawn0.refl _|apply Drawn0.step)⟩
  ·rw [if_neg c4] at H
   have c4b0:decide ((Int.tmod a0 a1)<0)=false:=decide_eq_false c4
   clear c4
   obtain rfl:=Option.some.inj H
   go_enter Tryz.func64,Tryz.ntmps64
   go_wp2
   go_ret
   exact ⟨by first|rfl|(simp;done)|(simp [*];done),by repeat (first|exact Drawn0.refl _|apply Drawn0.step)⟩
theorem idx3_run (a b c:Int) (w:World):(Instr.index 47 (.agg #[.int .i64 a,.int .i64 b,.int .i64 c]) (.int .i64 0)).run Tryz.prog w = .ok (.int .i64 a) w∧(Instr.index 47 (.agg #[.int .i64 a,.int .i64 b,.int .i64 c]) (.int .i64 1)).run Tryz.prog w = .ok (.int .i64 b) w∧(Instr.index 47 (.agg #[.int .i64 a,.int .i64 b,.int .i64 c]) (.int .i64 2)).run Tryz.prog w = .ok (.int .i64 c) w:=by
 obtain ⟨i0,hi0,hz0,hsz,hby⟩:=info_parts info3
 refine ⟨?_,?_,?_⟩ <;> simp [Instr.index,run_underlying Tryz.underlying47,asIntOf,part,sizeOf,typeInfo,hi0,hsz,go_sem]
set_option maxHeartbeats 4000000 in
theorem dimR_calls (x:S50) (k:Nat) (hk:k<3) (W:World):Calls Tryz.prog 65 #[.agg #[.int .i64 x.f0,.int .i64 x.f1,.int .i64 x.f2,.int .i64 x.f3],.int .i64 (k:Int)] W fun e w'=>e = .returned (.int .i64 (dimF k x))∧Below W.heap.size W w':=by
 have hu:=Tryz.underlying50
 have hu2:=Tryz.underlying47
 have hidx:=fun (V:World)=>idx3_run x.f1 x.f2 x.f3 V
 have hidx0:=fun V=>(hidx V).1
 have hidx1:=fun V=>(hidx V).2.1
 have hidx2:=fun V=>(hidx V).2.2
 clear hidx
 have HB:=aK (below_alloc (Below.refl W.heap.size W) (.cells #[.int .i64 x.f0,.int .i64 x.f1,.int .i64 x.f2,.int .i64 x.f3] 50))
 rcases k with _|_|_|k
 ·go_enter Tryz.func65,Tryz.ntmps65
  go_wp2
  go_ret
  exact ⟨rfl,HB.out⟩
 ·go_enter Tryz.func65,Tryz.ntmps65
  go_wp2
  go_ret
  exact ⟨rfl,HB.out⟩
 ·go_enter Tryz.func65,Tryz.ntmps65
  go_wp2
  go_ret
  exact ⟨rfl,HB.out⟩
 ·omega
theorem reads_list {α : Type} {R : α → List Value → Prop} {size : Nat} {w : World} {ad : Addr} (ps : List α) (h : ∀ j p, ps[j]? = some p → ∃ c, c.length = size ∧ R p c ∧ ∀ i u, c[i]? = some u → w.cell? (ad.add (j * size + i)) = some u) : ∀ m, m ≤ ps.length → ∃ os : List Value, Reps R size (ps.take m) os ∧ ∀ j u, os[j]? = some u → w.cell? (ad.add j) = some u
 | 0,_=>⟨[],Reps.none _ _,fun j u hj=>by simp at hj⟩
 | m+1,hm=>by
  obtain ⟨os,h1,h2⟩:=reads_list ps h m (by omega)
  obtain ⟨c,hc,hp,hcell⟩:=h m ps[m] (List.getElem?_eq_getElem (by omega))
  refine ⟨os++c,?_,fun j u hj=>?_⟩
  ·rw [List.take_succ_eq_append_getElem (by omega)]
   exact Reps.snoc h1 hp hc
  ·rcases Nat.lt_or_ge j os.length with hj2|hj2
   ·rw [List.getElem?_append_left hj2] at hj;exact h2 j u hj
   ·rw [List.getElem?_append_right hj2] at hj
    have hl:os.length=m*size:=by rw [h1.1,List.length_take,Nat.min_eq_left (by omega)]
    have:=hcell (j-os.length) u hj
    rwa [hl,show m*size+(j-m*size)=j by omega] at this
theorem cut_append_step {P : Program} {ops : Array Oper} {o : Oper} {a : Act} {w : World} {K : Act → World → Prop} {Q : Exit → Act → World → Prop} {E : Prop} {α : Type} (d : Kd α) (hflat : ∀ w x cs, d.K w x cs → ∀ w' base ok, d.M w' base ok x cs)
  (hg:o.guard=none) (s x:Operand) (t:TypeId) (hop:o.op=Op.call { callee:=Callee.builtin Builtin.append,args:=#[s,x],argTypes:=#[t,t] })
  (e:TypeId) (z:Value) (bytes:Nat) (h1:P.underlying t=some (.slice e)) (hinfo:(P.info? e).map (fun i=>(i.zero,i.size,i.bytes))=some (some z,d.sz,bytes)) (hz:z.cells.size=d.sz) (hs0:0<d.sz)
  (A:Option Addr) (j:Nat) (xs:List α) (hs:a.eval s = .slice A j j) (hC:d.C w A j xs)
  (A2:Option Addr) (m c:Nat) (ys:List α) (hx:a.eval x = .slice A2 m c) (hY:d.C w A2 m ys) (hm:0<m) (b1:j+m≤maxLen) (b2:(j+m)*bytes≤140737488355328)
  (base:Nat) (hb:base≤w.heap.size) (ok:Nat→Prop) (hok : ∀ k,w.heap.size≤k→ok k)
  (hK : ∀ v' w',d.R e w' base ok v' (xs++ys)→w.grownBy w' none→K (a.put o.dst v') w') :
  if Region.wanted o (yielded ops a.tmps)=true then Oper.wp P o a w K Q else E:=by
 obtain ⟨i0,hi,hzz⟩:=Option.map_eq_some_iff.1 hinfo
 simp only [Prod.mk.injEq] at hzz
 obtain ⟨hz0,hz1,hz2⟩:=hzz
 have lx:xs.length=j:=hC.1
 have ly:ys.length=m:=hY.1
 obtain ⟨ad,e2,hcy⟩:=hY.2.2 hm
 obtain ⟨ns,hn1,hn2⟩:=reads_list ys hcy m (by omega)
 rw [List.take_of_length_le (by omega)] at hn1
 obtain ⟨os,ho1,ho2⟩ : ∃ os:List Value,Reps (d.K w) d.sz xs os∧∀ b,A=some b→∀ i u,os[i]?=some u→w.cell? (b.add i)=some u:=by
  rcases Nat.eq_zero_or_pos j with h0|h0
  ·obtain rfl:xs=[]:=List.eq_nil_of_length_eq_zero (by omega)
   exact ⟨[],Reps.none _ _,fun b _ i u hi=>by simp at hi⟩
  ·obtain ⟨b,e3,hcx⟩:=hC.2.2 h0
   obtain ⟨os,h2,h3⟩:=reads_list xs hcx j (by omega)
   rw [List.take_of_length_le (by omega)] at h2
   exact ⟨os,h2,fun b' hb'=>by rw [e3] at hb';injection hb' with hb';subst hb';exact h3⟩
 have hns1 : ∀ u∈ns,u.oneCell'=true:=fun u hu=>by
  obtain ⟨i,hi2,rfl⟩:=List.getElem_of_mem hu
  have hl:=hn1.1
  have hdiv:i / d.sz<ys.length:=by rw [hl] at hi2;exact Nat.div_lt_of_lt_mul (by rw [Nat.mul_comm];exact hi2)
  refine d.K_one (hn1.2 (i / d.sz) _ (List.getElem?_eq_getElem hdiv)) _ ?_
  have hlt:i % d.sz<d.sz:=Nat.mod_lt _ hs0
  have hsum:i / d.sz*d.sz+i % d.sz=i:=by rw [Nat.mul_comm];exact Nat.div_add_mod i d.sz
  have hg2:((ns.drop (i / d.sz*d.sz)).take d.sz)[i % d.sz]?=some ns[i]:=by
   rw [List.getElem?_take_of_lt hlt,List.getElem?_drop,hsum,List.getElem?_eq_getElem hi2]
  exact List.mem_of_getElem? hg2
 subst e2
 refine step_append_grows hg s x t hop e i0 z d.sz bytes h1 hi hz0 hz1 hz2 hz hs0 A j j os hs (fun e0=>?_) (by rw [ho1.1,lx]) ho2 ad m c ns hx (by rw [hn1.1,ly]) hn2 hns1 (by omega) b1 b2 ?_
 ·rcases Nat.eq_zero_or_pos j with h0|h0
  ·exact ⟨h0,h0⟩
  ·obtain ⟨b,e3,-⟩:=hC.2.2 h0
   rw [e0] at e3
   cases e3
 ·intro v' w' hown hgrow
  refine hK v' w' ⟨fun k hk=>hok k (own_base hown k hk),os++ns,?_,(Kd.reps_append ho1 hn1).imp_ (fun _ _ hp=>hflat _ _ _ hp _ _ _)⟩ hgrow
  rw [List.length_append,lx,ly]
  exact own_weaken hown hb
theorem flatC : ∀ (w:World) (x:S50) (cs:List Value),k50.K w x cs→∀ w' base ok,k50.M w' base ok x cs:=fun w x cs h w' base ok=>by
 rw [k50_open h]
 exact k50_mkM _ _ _ x
theorem flatR : ∀ (w:World) (x:S45) (cs:List Value),k45.K w x cs→∀ w' base ok,k45.M w' base ok x cs:=fun w x cs h w' base ok=>by
 rw [k45_open h]
 exact k45_mkM _ _ _ x
theorem flatI : ∀ (w:World) (x:Int) (cs:List Value),(Kd.int .i64).K w x cs→∀ w' base ok,(Kd.int .i64).M w' base ok x cs:=fun _ _ _ h _ _ _=>h
theorem all_next {α:Type} (p:α→Bool) (l:List α) (i:Nat) (h:i<l.length):(l.take (i+1)).all p=((l.take i).all p && p l[i]):=by
 rw [List.take_add_one,List.getElem?_eq_getElem h,List.all_append]
 simp
theorem map_next {α β:Type} (f:α→β) (l:List α) (i:Nat) (h:i<l.length):(l.take (i+1)).map f=(l.take i).map f++[f l[i]]:=by
 rw [List.take_add_one,List.getElem?_eq_getElem h,List.map_append]
 rfl
structure ResS (w W:World) (b4:Nat):Prop where
 below:Below w.heap.size w W
 le:w.heap.size≤b4
 res:W.heap[b4]?=some (.cells #[.int .i64 0,.slice none 0 0,.slice none 0 0] 25 (0,0))
theorem ResS.ofBelow {w W W':World} {b4:Nat} (h:ResS w W b4) (hb:Below W.heap.size W W'):ResS w W' b4:=⟨below_step h.below hb,h.le,blk_below h.res hb⟩
structure MetS (w W:World) (b4 bm:Nat) (sz:Int) (cs:List S50) (rs:List S45):Prop where
 base:ResS w W b4
 le:w.heap.size≤bm
 ne:b4≠bm
 met : ∃ v1 v2,W.heap[bm]?=some (.cells #[.int .i64 sz,v1,v2] 25 (0,0))∧Kd.R k50 50 W w.heap.size (fun _=>True) v1 cs∧Kd.R k45 45 W w.heap.size (fun _=>True) v2 rs
section
variable {w W W':World} {b4 bm:Nat} {sz:Int} {cs cs':List S50} {rs rs':List S45} {v1:Value}
theorem MetS.ofBelow (h:MetS w W b4 bm sz cs rs) (hb:Below W.heap.size W W'):MetS w W' b4 bm sz cs rs:=by
 obtain ⟨h1,h2,h3,u1,u2,h5,h6,h7⟩:=h
 exact ⟨h1.ofBelow hb,h2,h3,u1,u2,blk_below h5 hb,Kd.R_below h6 hb,Kd.R_below h7 hb⟩
theorem MetS.putC (h:MetS w W b4 bm sz cs rs) (hk:KeepT 50 W W') (hB:Below w.heap.size w W') (hr:Kd.R k50 50 W' w.heap.size (fun _=>True) v1 cs'):MetS w (W'.setCell ⟨bm,1,none⟩ v1) b4 bm sz cs' rs:=by
 obtain ⟨h1,h2,h3,u1,u2,h5,h6,h7⟩:=h
 have g5:=hk.blk h5 (by decide)
 exact ⟨⟨below_set hB h2,h1.le,blk_far (hk.blk h1.res (by decide)) h3 _⟩,h2,h3,_,_,blk_put g5 1 v1 rfl,Kd.R_set hr g5 (fun q hq=>by rw [opq50 q hq];decide) 1 v1,Kd.R_set (hk.row h7 (fun q hq=>by rw [opq45 q hq];decide)) g5 (fun q hq=>by rw [opq45 q hq];decide) 1 v1⟩
theorem MetS.putR (h:MetS w W b4 bm sz cs rs) (hk:KeepT 45 W W') (hB:Below w.heap.size w W') (hr:Kd.R k45 45 W' w.heap.size (fun _=>True) v1 rs'):MetS w (W'.setCell ⟨bm,2,none⟩ v1) b4 bm sz cs rs':=by
 obtain ⟨h1,h2,h3,u1,u2,h5,h6,h7⟩:=h
 have g5:=hk.blk h5 (by decide)
 exact ⟨⟨below_set hB h2,h1.le,blk_far (hk.blk h1.res (by decide)) h3 _⟩,h2,h3,_,_,blk_put g5 2 v1 rfl,Kd.R_set (hk.row h6 (fun q hq=>by rw [opq50 q hq];decide)) g5 (fun q hq=>by rw [opq50 q hq];decide) 2 v1,Kd.R_set hr g5 (fun q hq=>by rw [opq45 q hq];decide) 2 v1⟩
theorem MetS.far {g j:Nat} {t:TypeId} {xs:Array Value} {v:Value} (h:MetS w W b4 bm sz cs rs) (hg:W.heap[g]?=some (.cells xs t (0,0))) (hw:w.heap.size≤g) (n1:25≠t) (n2:50≠t) (n3:45≠t):MetS w (W.setCell ⟨g,j,none⟩ v) b4 bm sz cs rs:=by
 obtain ⟨h1,h2,h3,u1,u2,h5,h6,h7⟩:=h
 exact ⟨⟨below_set h1.below hw,h1.le,blk_far h1.res (blk_ne h1.res hg n1) _⟩,h2,h3,_,_,blk_far h5 (blk_ne h5 hg n1) _,Kd.R_set h6 hg (fun q hq=>by rw [opq50 q hq];exact n2) j v,Kd.R_set h7 hg (fun q hq=>by rw [opq45 q hq];exact n3) j v⟩
end
end Go.Proofs.YtoemkemmiikhlaaGreat.PF2
