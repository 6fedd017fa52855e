import Derived.Test.YtckjlckhjcbddaaPH3x0
set_option maxRecDepth 100000
namespace Go.Proofs.Ytckjlckhjcbddaa.PH3
open Go.RowKit Go.Proofs.YtckjlckhjcbddaaW.PrintWords Go.Proofs.YtckjlckhjcbddaaW.PrintLast Go.Proofs.YtckjlckhjcbddaaW.PrintMore
attribute [local go_sem] max2_int min2_int max_two min_two max_three min_three max_four min_four
set_option linter.unusedVariables false
set_option linter.unusedSimpArgs false
def flat_IsCoord.f (a0:Int):Option (Bool):=if a0≥(-268435455) then (some (decide (a0≤268435455))) else (some false)
set_option maxHeartbeats 8000000 in
theorem flat_IsCoord.calls (a0 : Int) (r : Bool) (w : World) (h : flat_IsCoord.f a0 = some r) :
  Calls Try.prog 74 #[.int .i64 a0] w fun e w'=>e = .returned (.bool r)∧Drawn0 w w':=by
 have H:(if a0≥(-268435455) then (some (decide (a0≤268435455))) else (some false))=some r:=h
 clear h
 by_cases c2:a0≥(-268435455)
 ·rw [if_pos c2] at H
  have c2b0:decide ((-268435455)≤a0)=true:=decide_eq_true c2
  clear c2
  obtain rfl:=Option.some.inj H
  go_enter Try.func74,Try.ntmps74
  go_wp2
  go_ret
  exact ⟨by first|rfl|(simp;done)|(simp [*];done),by repeat (first|exact Drawn0.refl _|apply Drawn0.step)⟩
 ·rw [if_neg c2] at H
  have c2b0:decide ((-268435455)≤a0)=false:=decide_eq_false c2
  clear c2
  obtain rfl:=Option.some.inj H
  go_enter Try.func74,Try.ntmps74
  go_wp2
  go_ret
  exact ⟨by first|rfl|(simp;done)|(simp [*];done),by repeat (first|exact Drawn0.refl _|apply Drawn0.step)⟩
def flat_IsPoint.f (a0_0:Int) (a0_1:Int):Option (Bool):=(flat_IsCoord.f a0_0).bind fun t102=>(if t102=true then ((flat_IsCoord.f a0_1).bind fun t103=>(some t103)) else (some false))
set_option maxHeartbeats 8000000 in
theorem flat_IsPoint.calls (a0_0 : Int) (a0_1 : Int) (r : Bool) (w : World) (h : flat_IsPoint.f a0_0 a0_1 = some r) :
  Calls Try.prog 56 #[.agg #[.int .i64 a0_0,.int .i64 a0_1]] w fun e w'=>e = .returned (.bool r)∧Below w.heap.size w w':=by
 have hu31:=Try.underlying31
 have HB:=aK (Below.refl w.heap.size w)
 have H:((flat_IsCoord.f a0_0).bind fun t102=>(if t102=true then ((flat_IsCoord.f a0_1).bind fun t103=>(some t103)) else (some false)))=some r:=h
 clear h
 replace H:=Option.bind_eq_some_iff.mp H
 obtain ⟨t102,A20,H⟩:=H
 replace H:(if t102=true then ((flat_IsCoord.f a0_1).bind fun t103=>(some t103)) else (some false))=some r:=H
 have A2:=aK A20
 clear A20
 by_cases c3:t102=true
 ·subst c3
  have H1:((flat_IsCoord.f a0_1).bind fun t103=>(some t103))=some r:=by rw [if_pos rfl] at H;exact H
  clear H
  have H:=H1
  clear H1
  replace H:=Option.bind_eq_some_iff.mp H
  obtain ⟨t103,A40,H⟩:=H
  replace H:(some t103)=some r:=H
  have A4:=aK A40
  clear A40
  obtain rfl:=Option.some.inj H
  go_enter Try.func56,Try.ntmps56
  go_wp2_with (first|((with_reducible refine gate_dst (N:=1) rfl ?_);refine box_event ?hg (N:=1) ?hd (cs:=#[.int .i64 a0_0,.int .i64 a0_1]) (t:=31) ?hr ?_;(case hd=>rfl);(case hg=>rfl);(case hr=>first|(go_simp;done)|(go_simp;rfl));intro gb101 hg w5 hbox hb;have n0_:=aK (below_step (by repeat (first|(with_reducible first|exact HB.out|apply below_alloc|apply pw_below_drewN|apply below_drew1)|exact HB.out)) hb);have n1_:=aK (hbox);have n2_:=aK ((by rw [hg];exact (below_size (by repeat (first|(with_reducible first|exact HB.out|apply below_alloc|apply pw_below_drewN|apply below_drew1)|exact HB.out))):w.heap.size≤gb101));have n3_:=n2_;clear HB;have HB:=n0_;have BK101:=n1_;have GW101:=n2_;have GE101:=n3_;clear n0_ n1_ n2_ n3_;clear hb hbox hg;have hcz6_0:w5.cell? ⟨gb101,0,none⟩=some (.int .i64 a0_0):=(blk_cell BK101.out 0).trans rfl;have hcz6_1:w5.cell? ⟨gb101,1,none⟩=some (.int .i64 a0_1):=(blk_cell BK101.out 1).trans rfl;have hfz6_0:=blk_frozen BK101.out 0;have hfz6_1:=blk_frozen BK101.out 1)|((with_reducible refine gate_callee (f:=74) rfl ?_);refine goesL_ (some 5) rfl rfl Try.func74 (by kernel_rfl) rfl #[.int .i64 a0_0] rfl (by (try simp only [List.map_toArray,List.map_cons,List.map_nil]);first|done|rfl|(simp only [List.length_drop,List.length_take];rfl)) ?_;(with_reducible refine (flat_IsCoord.calls a0_0 true _ A2.out).mono ?_);rintro e w' ⟨rfl,⟨nd,rfl⟩⟩;refine ⟨_,rfl,?_⟩)|(go_at_call 74;(with_reducible refine (flat_IsCoord.calls a0_1 t103 _ A4.out).mono ?_);rintro e w' ⟨rfl,⟨nd,rfl⟩⟩))
  go_ret
  exact ⟨by first|rfl|(simp [errW_none,errW_some] <;> rfl)|(simp [*,errW_none,errW_some] <;> rfl),by repeat (first|(with_reducible first|exact HB.out|apply below_alloc|apply pw_below_drewN|apply below_drew1|refine below_set ?_ GE101.out)|exact HB.out)⟩
 ·replace c3:=Bool.eq_false_iff.mpr c3
  subst c3
  have H1:(some false)=some r:=by rw [if_neg (show ¬ (false=true) by decide)] at H;exact H
  clear H
  have H:=H1
  clear H1
  obtain rfl:=Option.some.inj H
  go_enter Try.func56,Try.ntmps56
  go_wp2_with (first|((with_reducible refine gate_dst (N:=1) rfl ?_);refine box_event ?hg (N:=1) ?hd (cs:=#[.int .i64 a0_0,.int .i64 a0_1]) (t:=31) ?hr ?_;(case hd=>rfl);(case hg=>rfl);(case hr=>first|(go_simp;done)|(go_simp;rfl));intro gb101 hg w7 hbox hb;have n0_:=aK (below_step (by repeat (first|(with_reducible first|exact HB.out|apply below_alloc|apply pw_below_drewN|apply below_drew1)|exact HB.out)) hb);have n1_:=aK (hbox);have n2_:=aK ((by rw [hg];exact (below_size (by repeat (first|(with_reducible first|exact HB.out|apply below_alloc|apply pw_below_drewN|apply below_drew1)|exact HB.out))):w.heap.size≤gb101));have n3_:=n2_;clear HB;have HB:=n0_;have BK101:=n1_;have GW101:=n2_;have GE101:=n3_;clear n0_ n1_ n2_ n3_;clear hb hbox hg;have hcz8_0:w7.cell? ⟨gb101,0,none⟩=some (.int .i64 a0_0):=(blk_cell BK101.out 0).trans rfl;have hcz8_1:w7.cell? ⟨gb101,1,none⟩=some (.int .i64 a0_1):=(blk_cell BK101.out 1).trans rfl;have hfz8_0:=blk_frozen BK101.out 0;have hfz8_1:=blk_frozen BK101.out 1)|((with_reducible refine gate_callee (f:=74) rfl ?_);refine goesL_ (some 5) rfl rfl Try.func74 (by kernel_rfl) rfl #[.int .i64 a0_0] rfl (by (try simp only [List.map_toArray,List.map_cons,List.map_nil]);first|done|rfl|(simp only [List.length_drop,List.length_take];rfl)) ?_;(with_reducible refine (flat_IsCoord.calls a0_0 false _ A2.out).mono ?_);rintro e w' ⟨rfl,⟨nd,rfl⟩⟩;refine ⟨_,rfl,?_⟩))
  go_ret
  exact ⟨by first|rfl|(simp [errW_none,errW_some] <;> rfl)|(simp [*,errW_none,errW_some] <;> rfl),by repeat (first|(with_reducible first|exact HB.out|apply below_alloc|apply pw_below_drewN|apply below_drew1|refine below_set ?_ GE101.out)|exact HB.out)⟩
theorem goesv_ {P : Program} {ops : Array Oper} {Q : Exit → Act → World → Prop} {oi : Oper} {N : Option Tmp} {a : Act} {w : World} {K : Act → World → Prop} {g : FuncId} {s : Operand} {xs : Array Operand} {ts : Array TypeId} (lb args : Array Value)
  (eg : ∀ args w,(callFunc g args).run P w = .ok (.enter g args) w)
  (hw:Region.wanted oi (yielded ops a.tmps)=true) (hN:oi.dst=N) (hop:oi.op = .call { callee:=.value s,args:=xs,argTypes:=ts }) (hs:a.eval s = .func (.func g) #[] lb) (hargs:xs.map a.eval=args)
  (h:Calls P g (args++lb) w fun e w'=>∃ v,e = .returned v∧K (a.put N v) w'):if Region.wanted oi (yielded ops a.tmps)=true then Oper.wp P oi a w K Q else K (a.put N undef) w:=by
 refine call_ g (args++lb) hw hN ?_ h
 have he:=eg (args++lb) w
 unfold execOp
 simp [hop,resolve,Deferred.ofValue,invoke,hs,hargs,he]
theorem enters_own {f : FuncId} {fn : Func} {c : Code} (hf : Try.prog.funcs[f]? = some fn) (hname : (fn.name == "runtime.NumGoroutine") = false) (hb : fn.body = some c) : ∀ (args : Array Value) (w : World), (callFunc f args).run Try.prog w = .ok (.enter f args) w := by
 intro args w
 have h1 : fn.name ≠ "runtime.NumGoroutine" := by simpa using hname
 simp [callFunc,hf,h1,hb,mark]
def idxFrom (p : S31 → Bool) : List S31 → Int → Int
 | [],_=>-1
 | x::xs,i=>if p x then i else idxFrom p xs (i+1)
theorem idxFrom_nonneg (p : S31 → Bool) : ∀ (xs : List S31) (i : Int), 0 ≤ i → (decide (0 ≤ idxFrom p xs i) = xs.any p)
 | [],i,_=>by simp [idxFrom]
 | x::xs,i,h=>by
  unfold idxFrom
  by_cases hx:p x=true
  ·simp [hx,h]
  ·simp [hx,idxFrom_nonneg p xs (i+1) (by omega)]
theorem rd_drop (xs:List S31) (i:Nat) (h:i<xs.length):xs.drop i=rd_T31 xs (i:Int)::xs.drop (i+1):=by
 rw [List.drop_eq_getElem_cons h]
 congr 1
 simp [rd_T31,List.getD_eq_getElem?_getD,List.getElem?_eq_getElem h]
def ptv (x:S31):Value:=.agg #[.int .i64 x.f0,.int .i64 x.f1]
set_option maxHeartbeats 2000000 in
theorem IndexFunc_pts (g : Nat) (lb : Array Value) (p : S31 → Bool) (eg : ∀ args w, (callFunc g args).run Try.prog w = .ok (.enter g args) w) (A0 : Option Addr) (c0 : Nat) (l0 : List S31) (w : World)
  (hp : ∀ (W:World) (x:S31),Below w.heap.size w W→Calls Try.prog g (#[.agg #[.int .i64 x.f0,.int .i64 x.f1]]++lb) W fun e w'=>e = .returned (.bool (p x))∧Below w.heap.size w w')
  (hr0:Kd.C k31 w A0 l0.length l0) (hlen:l0.length≤9223372036854775807) :
  Calls Try.prog 73 #[.slice A0 l0.length c0,.func (.func g) #[] lb] w fun e w'=>e = .returned (.int .i64 (idxFrom p l0 0))∧Below w.heap.size w w':=by
 have hu:=Try.underlying31
 have HR0:=aK hr0
 have HP:=aK hp
 clear hr0 hp
 have HB:=aK (Below.refl w.heap.size w)
 go_enter Try.func73,Try.ntmps73
 go_wp2
 go_loopg [8] l0.length (fun gg s8 wr=>∃ kk:Nat,kk≤l0.length∧l0.length-kk≤gg∧s8 = .int .i64 kk∧Aside0 (idxFrom p l0 0=idxFrom p (l0.drop kk) kk)∧Aside0 (Below w.heap.size w wr))
 case atStart=>exact ⟨0,Nat.zero_le _,by omega,rfl,⟨rfl⟩,HB⟩
 case round =>
  obtain ⟨kk,hkk,hg,rfl,HI,HB⟩:=hrel
  by_cases hlt:kk<l0.length
  ·have hlti:(kk:Int)<(l0.length:Int):=by omega
   obtain ⟨ad,rfl,hx0,hx1⟩:=at_T31 HR0.out (kk:Int) (by omega) hlti
   have hcall:=HP.out wr (rd_T31 l0 (kk:Int)) HB.out
   have hd:=rd_drop l0 kk hlt
   have HI2:Aside0 (idxFrom p l0 0=if p (rd_T31 l0 (kk:Int)) then (kk:Int) else idxFrom p (l0.drop (kk+1)) ((kk:Int)+1)):=⟨by rw [HI.out,hd];rfl⟩
   clear HI hd
   have hx0':=(HB.out.cell (World.block_lt_of_cell? w _ hx0)).trans hx0
   have hx1':=(HB.out.cell (World.block_lt_of_cell? w _ hx1)).trans hx1
   clear hx0 hx1
   simp only [Int.toNat_natCast] at hx0' hx1'
   generalize rd_T31 l0 (kk:Int)=x at *
   cases hq:p x with
   | true =>
    rw [hq] at hcall
    have hi:idxFrom p l0 0=(kk:Int):=by have:=HI2.out;rw [hq] at this;exact this
    have HI3:=aK hi
    clear hi HI2 hq
    go_wp2_with fail
    refine hcall.mono ?_
    clear hcall
    rintro e w' ⟨rfl,hb'⟩
    go_wp2
    go_ret
    exact ⟨by rw [HI3.out];rfl,hb'⟩
   | false =>
    rw [hq] at hcall
    have hi:idxFrom p l0 0=idxFrom p (l0.drop (kk+1)) ((kk:Int)+1):=by have:=HI2.out;rw [hq] at this;exact this
    have HI3:=aK hi
    clear hi HI2 hq
    go_wp2_with fail
    refine hcall.mono ?_
    clear hcall
    rintro e w' ⟨rfl,hb'⟩
    go_wp2
    go_roundg (l0.length-(kk+1))
    case measure=>omega
    case rel=>exact ⟨kk+1,by omega,by omega,by go_num,⟨HI3.out⟩,⟨hb'⟩⟩
  ·have hlti : ¬ (kk:Int)<(l0.length:Int):=by omega
   have hi:idxFrom p l0 0 = -1:=by rw [HI.out,List.drop_eq_nil_of_le (by omega)];rfl
   have HI3:=aK hi
   clear hi HI
   go_wp2
   go_ret
   exact ⟨by rw [HI3.out];rfl,HB.out⟩
instance instPt:Inhabited S31:=⟨z31⟩
def encP (x:S31):List Value:=[.int .i64 x.f0,.int .i64 x.f1]
theorem get_flatP (xs:List S31) (j:Nat) (hj:j<xs.length) (q:Nat) (hq:q<2):(Go.Sort.flatK encP 2 xs.toArray)[j*2+q]?=(encP xs[j])[q]?:=by
 have h1:j*2+q<xs.length*2:=by omega
 have h2:(j*2+q) / 2=j:=by omega
 have h3:(j*2+q) % 2=q:=by omega
 have h4:=Go.Sort.get_flatK encP 2 xs.toArray (j*2+q) (by simpa using h1)
 rw [h2,h3] at h4
 have h5:j*2+q<(Go.Sort.flatK encP 2 xs.toArray).size:=by simpa using h1
 have h6:xs.toArray[j]! = xs[j]:=by simp [hj]
 rw [h6,getElem!_pos (Go.Sort.flatK encP 2 xs.toArray) (j*2+q) h5] at h4
 rw [Array.getElem?_eq_getElem h5,h4]
 have h7:q<(encP xs[j]).length:=hq
 rw [getElem!_pos (encP xs[j]) q h7,List.getElem?_eq_getElem h7]
theorem cells_flatP {w:World} {base:Nat} {ok:Nat→Prop} {xs:List S31} {cs:List Value} (h:Reps (k31.M w base ok) k31.sz xs cs):Go.Sort.flatK encP 2 xs.toArray=cs.toArray:=by
 obtain ⟨h1,h2⟩:=h
 have h1':cs.length=xs.length*2:=h1
 apply Array.ext_getElem?
 intro t
 by_cases ht:t<xs.length*2
 ·obtain ⟨j,q,hq,rfl⟩ : ∃ j q,q<2∧t=j*2+q:=⟨t / 2,t % 2,by omega,by omega⟩
  have hj:j<xs.length:=by omega
  rw [get_flatP xs j hj q hq]
  have h3:=k31_openM (h2 j xs[j] (List.getElem?_eq_getElem hj))
  have h4:(cs.drop (j*2)).take 2=encP xs[j]:=h3
  rw [← h4,List.getElem?_take_of_lt hq,List.getElem?_drop]
  simp
 ·rw [Array.getElem?_eq_none (by simp;omega),Array.getElem?_eq_none (by simp;omega)]
theorem reps_flatP {w:World} {base:Nat} {ok:Nat→Prop} (xs:List S31):Reps (k31.M w base ok) k31.sz xs (Go.Sort.flatK encP 2 xs.toArray).toList:=by
 refine ⟨by simp;rfl,fun j p hj=>?_⟩
 obtain ⟨hx,rfl⟩:=List.getElem?_eq_some_iff.1 hj
 have h:(((Go.Sort.flatK encP 2 xs.toArray).toList.drop (j*2)).take 2)=encP xs[j]:=by
  apply List.ext_getElem?
  intro q
  by_cases hq:q<2
  ·rw [List.getElem?_take_of_lt hq,List.getElem?_drop,Array.getElem?_toList,get_flatP xs j hx q hq]
  ·rw [List.getElem?_take_eq_none (by omega),List.getElem?_eq_none (by simp [encP];omega)]
 show k31.M w base ok xs[j] (((Go.Sort.flatK encP 2 xs.toArray).toList.drop (j*2)).take 2)
 rw [h]
 exact k31_mkM w base ok xs[j]
theorem holds_row {w:World} {g:Nat} {cur:Array Value} {e:TypeId} {vs:List Value} (hb:w.heap[g]?=some (.cells cur e (0,0))) (ht:cur.toList.take vs.length=vs):Go.Sort.Holds id w g 0 vs.toArray:=by
 intro j hj
 have hj':j<vs.length:=by simpa using hj
 refine ⟨?_,by simp [World.frozen?,hb]⟩
 have h1:(cur.toList.take vs.length)[j]?=vs[j]?:=by rw [ht]
 rw [List.getElem?_take_of_lt hj'] at h1
 simp only [World.cell?,hb,Nat.zero_add]
 simp only [Option.isSome_none,Bool.false_eq_true,if_false]
 rw [← Array.getElem?_toList,h1]
 simp [hj']
theorem heap_row {w : World} {g n : Nat} {cur : Array Value} {e : TypeId} {fr : Nat × Nat} (d : Array Value) (hb : w.heap[g]? = some (.cells cur e fr)) :
  (Go.Sort.putRow id (Go.Sort.ahead w n) g 0 d).heap[g]?=some (.cells (Go.Sort.putCells id 0 d cur) e fr):=by
 simp [Go.Sort.putRow,Go.Sort.mapBlock,Go.Sort.ahead,Array.getElem?_modify,hb,Go.Sort.onCells]
theorem grownBy_row {w:World} {g n:Nat} (d:Array Value):w.grownBy (Go.Sort.putRow id (Go.Sort.ahead w n) g 0 d) (some g):=by
 refine ⟨rfl,rfl,rfl,by simp [Go.Sort.putRow,Go.Sort.mapBlock,Go.Sort.ahead],fun k hk hne=>?_⟩
 have:g≠k:=fun e=>hne (by rw [e])
 simp [Go.Sort.putRow,Go.Sort.mapBlock,Go.Sort.ahead,Array.getElem?_modify,this]
theorem take_row (cur F:Array Value) (h:F.size≤cur.size):(Go.Sort.putCells id 0 F cur).toList.take F.size=F.toList:=by
 apply List.ext_getElem?
 intro j
 by_cases hj:j<F.size
 ·rw [List.getElem?_take_of_lt hj,Array.getElem?_toList]
  simp [Go.Sort.putCells,hj,show j<cur.size by omega]
 ·rw [List.getElem?_take_eq_none (by omega),List.getElem?_eq_none (by simp;omega)]
def api_Point_81.f (l0:List S31):Option (List S31):=if l0.length≤9223372036854775807 then some l0.reverse else none
theorem api_Point_81.calls (P0_ : Nat → Prop) (u9000_ : Value) (l0 : List S31) (r : List S31) (w0 w : World) (hB : Below w0.heap.size w0 w) (ho0 : Kd.R k31 31 w w0.heap.size P0_ u9000_ l0) (h : api_Point_81.f l0 = some r) :
  Calls Try.prog 81 #[u9000_] w fun e w'=>e = .returned (.tuple #[])∧Kd.R k31 31 w' w0.heap.size (fun k_=>(P0_ k_∨w.heap.size≤k_)) u9000_ r∧Below w0.heap.size w0 w'∧Kept w w' (fun k_=>P0_ k_):=by
 unfold api_Point_81.f at h
 by_cases hl:l0.length≤9223372036854775807
 ·rw [if_pos hl] at h
  injection h with h
  obtain ⟨h0,inner,ho,hr⟩:=ho0
  have hi:=cells_flatP hr
  rcases ho.2 with ⟨rfl,hn⟩|⟨g,cap,cur,rfl,hbase,hh,hle,hcap,hsz,htk⟩
  ·have hl0:l0=[]:=List.length_eq_zero_iff.mp hn
   subst hl0
   refine (Go.Proofs.AnyQ.slices_Reverse_empty Try.reverseP none 0 w).mono ?_
   rintro e w' ⟨rfl,rfl⟩
   refine ⟨rfl,?_,hB,Kept.refl _ _⟩
   have:r=[]:=by rw [← h];rfl
   subst this
   exact Kd.R_nil _ _ _ _ _
  ·have hk2:k31.sz=2:=rfl
   rw [hk2] at hsz htk
   have hin:inner.length=l0.length*2:=hr.1
   have hH:Go.Sort.HoldsK encP 2 w g 0 l0.toArray:=by
    unfold Go.Sort.HoldsK
    rw [hi]
    exact holds_row hh (by rw [hin];exact htk)
   refine (Go.Proofs.AnyQ.slices_Reverse Try.reverseP 2 Try.isAgg31 Try.sizeOf31 encP (fun _=>rfl) (fun x v hv=>by simp [encP] at hv;rcases hv with rfl|rfl <;> rfl) g 0 cap l0.toArray w hH hl).mono ?_
   rintro e w' ⟨rfl,n,rfl⟩
   have hrev:l0.toArray.reverse=r.toArray:=by rw [← h];simp
   rw [hrev]
   have hlen:r.length=l0.length:=by rw [← h];simp
   unfold Go.Sort.putRowK
   have hF:(Go.Sort.flatK encP 2 r.toArray).size=l0.length*2:=by simp [hlen]
   have hg:w.grownBy (Go.Sort.putRow id (Go.Sort.ahead w n) g 0 (Go.Sort.flatK encP 2 r.toArray)) (some g):=grownBy_row _
   have hok:P0_ g:=h0 g (by simp [Value.ownBlock])
   refine ⟨rfl,?_,?_,?_⟩
   ·refine ⟨fun k hk=>Or.inl (h0 k hk),(Go.Sort.flatK encP 2 r.toArray).toList,?_,reps_flatP r⟩
    refine ⟨by rw [hk2,Array.length_toList,hF,hlen],.inr ⟨g,cap,_,by rw [hlen],hbase,heap_row _ hh,by omega,hcap,by rw [hk2];simp [Go.Sort.putCells,hsz],?_⟩⟩
    have:=take_row cur (Go.Sort.flatK encP 2 r.toArray) (by rw [hF,hsz];omega)
    rw [hk2,hlen]
    rw [hF] at this
    exact this
   ·exact hB.grown hg hB.size (fun k hk=>by injection hk with hk;omega)
   ·exact Kept.of_grown hg (Kept.refl w _) (fun k hk=>by injection hk with hk;subst hk;exact Or.inl hok)
 ·rw [if_neg hl] at h
  exact absurd h (by simp)
def cmp_isNaN_int.f (a0:Int):Option (Bool):=some (a0 != a0)
set_option maxHeartbeats 8000000 in
theorem cmp_isNaN_int.calls (a0 : Int) (r : Bool) (w : World) (h : cmp_isNaN_int.f a0 = some r) :
  Calls Try.prog 53 #[.int .i64 a0] w fun e w'=>e = .returned (.bool r)∧Drawn0 w w':=by
 have H:(some (a0 != a0))=some r:=h
 clear h
 obtain rfl:=Option.some.inj H
 go_enter Try.func53,Try.ntmps53
 go_wp2
 go_ret
 exact ⟨by first|rfl|(simp;done)|(simp [*];done),by repeat (first|exact Drawn0.refl _|apply Drawn0.step)⟩
def cmp_Compare_int.f (a0:Int) (a1:Int):Option (Int):=(cmp_isNaN_int.f a0).bind fun t104=>((cmp_isNaN_int.f a1).bind fun t105=>(if t104=true then (if t105=true then (some 0) else (some (-1))) else (if t105=true then (some 1) else (if a0<a1 then (some (-1)) else (if a0>a1 then (some 1) else (some 0))))))
set_option maxHeartbeats 8000000 in
theorem cmp_Compare_int.calls (a0 : Int) (a1 : Int) (r : Int) (w : World) (h : cmp_Compare_int.f a0 a1 = some r) :
  Calls Try.prog 39 #[.int .i64 a0,.int .i64 a1] w fun e w'=>e = .returned (.int .i64 r)∧Drawn0 w w':=by
 have H:((cmp_isNaN_int.f a0).bind fun t104=>((cmp_isNaN_int.f a1).bind fun t105=>(if t104=true then (if t105=true then (some 0) else (some (-1))) else (if t105=true then (some 1) else (if a0<a1 then (some (-1)) else (if a0>a1 then (some 1) else (some 0)))))))=some r:=h
 clear h
 replace H:=Option.bind_eq_some_iff.mp H
 obtain ⟨t104,A30,H⟩:=H
 replace H:((cmp_isNaN_int.f a1).bind fun t105=>(if t104=true then (if t105=true then (some 0) else (some (-1))) else (if t105=true then (some 1) else (if a0<a1 then (some (-1)) else (if a0>a1 then (some 1) else (some 0))))))=some r:=H
 have A3:=aK A30
 clear A30
 replace H:=Option.bind_eq_some_iff.mp H
 obtain ⟨t105,A40,H⟩:=H
 replace H:(if t104=true then (if t105=true then (some 0) else (some (-1))) else (if t105=true then (some 1) else (if a0<a1 then (some (-1)) else (if a0>a1 then (some 1) else (some 0)))))=some r:=H
 have A4:=aK A40
 clear A40
 by_cases c5:t104=true
 ·subst c5
  have H1:(if t105=true then (some 0) else (some (-1)))=some r:=by rw [if_pos rfl] at H;exact H
  clear H
  have H:=H1
  clear H1
  by_cases c6:t105=true
  ·subst c6
   have H1:(some 0)=some r:=by rw [if_pos rfl] at H;exact H
   clear H
   have H:=H1
   clear H1
   obtain rfl:=Option.some.inj H
   go_enter Try.func39,Try.ntmps39
   go_wp2_with (first|((with_reducible refine gate_callee (f:=53) rfl ?_);refine goesL_ (some 8) rfl rfl Try.func53 (by kernel_rfl) rfl #[.int .i64 a0] rfl (by (try simp only [List.map_toArray,List.map_cons,List.map_nil]);first|done|rfl|(simp only [List.length_drop,List.length_take];rfl)) ?_;(with_reducible refine (cmp_isNaN_int.calls a0 true _ A3.out).mono ?_);rintro e w' ⟨rfl,⟨nd,rfl⟩⟩;refine ⟨_,rfl,?_⟩)|((with_reducible refine gate_callee (f:=53) rfl ?_);refine goesL_ (some 10) rfl rfl Try.func53 (by kernel_rfl) rfl #[.int .i64 a1] rfl (by (try simp only [List.map_toArray,List.map_cons,List.map_nil]);first|done|rfl|(simp only [List.length_drop,List.length_take];rfl)) ?_;(with_reducible refine (cmp_isNaN_int.calls a1 true _ A4.out).mono ?_);rintro e w' ⟨rfl,⟨nd,rfl⟩⟩;refine ⟨_,rfl,?_⟩))
   go_ret
   exact ⟨by first|rfl|(simp;done)|(simp [*];done),by repeat (first|exact Drawn0.refl _|apply Drawn0.step)⟩
  ·replace c6:=Bool.eq_false_iff.mpr c6
   subst c6
   have H1:(some (-1))=some r:=by rw [if_neg (show ¬ (false=true) by decide)] at H;exact H
   clear H
   have H:=H1
   clear H1
   obtain rfl:=Option.some.inj H
   go_enter Try.func39,Try.ntmps39
   go_wp2_with (first|((with_reducible refine gate_callee (f:=53) rfl ?_);refine goesL_ (some 8) rfl rfl Try.func53 (by kernel_rfl) rfl #[.int .i64 a0] rfl (by (try simp only [List.map_toArray,List.map_cons,List.map_nil]);first|done|rfl|(simp only [List.length_drop,List.length_take];rfl)) ?_;(with_reducible refine (cmp_isNaN_int.calls a0 true _ A3.out).mono ?_);rintro e w' ⟨rfl,⟨nd,rfl⟩⟩;refine ⟨_,rfl,?_⟩)|((with_reducible refine gate_callee (f:=53) rfl ?_);refine goesL_ (some 10) rfl rfl Try.func53 (by kernel_rfl) rfl #[.int .i64 a1] rfl (by (try simp only [List.map_toArray,List.map_cons,List.map_nil]);first|done|rfl|(simp only [List.length_drop,List.length_take];rfl)) ?_;(with_reducible refine (cmp_isNaN_int.calls a1 false _ A4.out).mono ?_);rintro e w' ⟨rfl,⟨nd,rfl⟩⟩;refine ⟨_,rfl,?_⟩))
   go_ret
   exact ⟨by first|rfl|(simp;done)|(simp [*];done),by repeat (first|exact Drawn0.refl _|apply Drawn0.step)⟩
 ·replace c5:=Bool.eq_false_iff.mpr c5
  subst c5
  have H1:(if t105=true then (some 1) else (if a0<a1 then (some (-1)) else (if a0>a1 then (some 1) else (some 0))))=some r:=by rw [if_neg (show ¬ (false=true) by decide)] at H;exact H
  clear H
  have H:=H1
  clear H1
  by_cases c7:t105=true
  ·subst c7
   have H1:(some 1)=some r:=by rw [if_pos rfl] at H;exact H
   clear H
   have H:=H1
   clear H1
   obtain rfl:=Option.some.inj H
   go_enter Try.func39,Try.ntmps39
   go_wp2_with (first|((with_reducible refine gate_callee (f:=53) rfl ?_);refine goesL_ (some 8) rfl rfl Try.func53 (by kernel_rfl) rfl #[.int .i64 a0] rfl (by (try simp only [List.map_toArray,List.map_cons,List.map_nil]);first|done|rfl|(simp only [List.length_drop,List.length_take];rfl)) ?_;(with_reducible refine (cmp_isNaN_int.calls a0 false _ A3.out).mono ?_);rintro e w' ⟨rfl,⟨nd,rfl⟩⟩;refine ⟨_,rfl,?_⟩)|((with_reducible refine gate_callee (f:=53) rfl ?_);refine goesL_ (some 10) rfl rfl Try.func53 (by kernel_rfl) rfl #[.int .i64 a1] rfl (by (try simp only [List.map_toArray,List.map_cons,List.map_nil]);first|done|rfl|(simp only [List.length_drop,List.length_take];rfl)) ?_;(with_reducible refine (cmp_isNaN_int.calls a1 true _ A4.out).mono ?_);rintro e w' ⟨rfl,⟨nd,rfl⟩⟩;refine ⟨_,rfl,?_⟩))
   go_ret
   exact ⟨by first|rfl|(simp;done)|(simp [*];done),by repeat (first|exact Drawn0.refl _|apply Drawn0.step)⟩
  ·replace c7:=Bool.eq_false_iff.mpr c7
   subst c7
   have H1:(if a0<a1 then (some (-1)) else (if a0>a1 then (some 1) else (some 0)))=some r:=by rw [if_neg (show ¬ (false=true) by decide)] at H;exact H
   clear H
   have H:=H1
   clear H1
   by_cases c8:a0<a1
   ·rw [if_pos c8] at H
    have c8b0:decide (a0<a1)=true:=decide_eq_true c8
    clear c8
    obtain rfl:=Option.some.inj H
    go_enter Try.func39,Try.ntmps39
    go_wp2_with (first|((with_reducible refine gate_callee (f:=53) rfl ?_);refine goesL_ (some 8) rfl rfl Try.func53 (by kernel_rfl) rfl #[.int .i64 a0] rfl (by (try simp only [List.map_toArray,List.map_cons,List.map_nil]);first|done|rfl|(simp only [List.length_drop,List.length_take];rfl)) ?_;(with_reducible refine (cmp_isNaN_int.calls a0 false _ A3.out).mono ?_);rintro e w' ⟨rfl,⟨nd,rfl⟩⟩;refine ⟨_,rfl,?_⟩)|((with_reducible refine gate_callee (f:=53) rfl ?_);refine goesL_ (some 10) rfl rfl Try.func53 (by kernel_rfl) rfl #[.int .i64 a1] rfl (by (try simp only [List.map_toArray,List.map_cons,List.map_nil]);first|done|rfl|(simp only [List.length_drop,List.length_take];rfl)) ?_;(with_reducible refine (cmp_isNaN_int.calls a1 false _ A4.out).mono ?_);rintro e w' ⟨rfl,⟨nd,rfl⟩⟩;refine ⟨_,rfl,?_⟩))
    go_ret
    exact ⟨by first|rfl|(simp;done)|(simp [*];done),by repeat (first|exact Drawn0.refl _|apply Drawn0.step)⟩
   ·rw [if_neg c8] at H
    have c8b0:decide (a0<a1)=false:=decide_eq_false c8
    clear c8
    by_cases c9:a0>a1
    ·rw [if_pos c9] at H
     have c9b0:decide (a1<a0)=true:=decide_eq_true c9
     clear c9
     obtain rfl:=Option.some.inj H
     go_enter Try.func39,Try.ntmps39
     go_wp2_with (first|((with_reducible refine gate_callee (f:=53) rfl ?_);refine goesL_ (some 8) rfl rfl Try.func53 (by kernel_rfl) rfl #[.int .i64 a0] rfl (by (try simp only [List.map_toArray,List.map_cons,List.map_nil]);first|done|rfl|(simp only [List.length_drop,List.length_take];rfl)) ?_;(with_reducible refine (cmp_isNaN_int.calls a0 false _ A3.out).mono ?_);rintro e w' ⟨rfl,⟨nd,rfl⟩⟩;refine ⟨_,rfl,?_⟩)|((with_reducible refine gate_callee (f:=53) rfl ?_);refine goesL_ (some 10) rfl rfl Try.func53 (by kernel_rfl) rfl #[.int .i64 a1] rfl (by (try simp only [List.map_toArray,List.map_cons,List.map_nil]);first|done|rfl|(simp only [List.length_drop,List.length_take];rfl)) ?_;(with_reducible refine (cmp_isNaN_int.calls a1 false _ A4.out).mono ?_);rintro e w' ⟨rfl,⟨nd,rfl⟩⟩;refine ⟨_,rfl,?_⟩))
     go_ret
     exact ⟨by first|rfl|(simp;done)|(simp [*];done),by repeat (first|exact Drawn0.refl _|apply Drawn0.step)⟩
    ·rw [if_neg c9] at H
     have c9b0:decide (a1<a0)=false:=decide_eq_false c9
     clear c9
     obtain rfl:=Option.some.inj H
     go_enter Try.func39,Try.ntmps39
     go_wp2_with (first|((with_reducible refine gate_callee (f:=53) rfl ?_);refine goesL_ (some 8) rfl rfl Try.func53 (by kernel_rfl) rfl #[.int .i64 a0] rfl (by (try simp only [List.map_toArray,List.map_cons,List.map_nil]);first|done|rfl|(simp only [List.length_drop,List.length_take];rfl)) ?_;(with_reducible refine (cmp_isNaN_int.calls a0 false _ A3.out).mono ?_);rintro e w' ⟨rfl,⟨nd,rfl⟩⟩;refine ⟨_,rfl,?_⟩)|((with_reducible refine gate_callee (f:=53) rfl ?_);refine goesL_ (some 10) rfl rfl Try.func53 (by kernel_rfl) rfl #[.int .i64 a1] rfl (by (try simp only [List.map_toArray,List.map_cons,List.map_nil]);first|done|rfl|(simp only [List.length_drop,List.length_take];rfl)) ?_;(with_reducible refine (cmp_isNaN_int.calls a1 false _ A4.out).mono ?_);rintro e w' ⟨rfl,⟨nd,rfl⟩⟩;refine ⟨_,rfl,?_⟩))
     go_ret
     exact ⟨by first|rfl|(simp;done)|(simp [*];done),by repeat (first|exact Drawn0.refl _|apply Drawn0.step)⟩
def cmp_Or_int.l0 : Nat → Int → List Int → Int → Int → Option (Int)
 | 0,_,_,_,_=>none
 | k+1,x3,x6,x7,x8=>if x8<x7 then (if 0≤x8 then (if x8<(x6.length:Int) then (if (rd x6 x8)=x3 then (cmp_Or_int.l0 k x3 x6 x7 (wrap64 (x8+1))) else (some (rd x6 x8))) else (none)) else (none)) else (some x3)
def cmp_Or_int.f (k:Nat) (l0:List Int):Option (Int):=cmp_Or_int.l0 k 0 l0 (l0.length:Int) 0
theorem cmp_Or_int.mono_l : ∀ k, (∀ y0 y1 y2 y3, LeO (cmp_Or_int.l0 k y0 y1 y2 y3) (cmp_Or_int.l0 (k + 1) y0 y1 y2 y3))
 | 0=>fun _ _ _ _ r h=>by simp [cmp_Or_int.l0] at h
 | k+1=>by
  have ih0:=cmp_Or_int.mono_l k
  ·intro y0 y1 y2 y3
   unfold cmp_Or_int.l0
   repeat' first
   | (with_reducible exact ih0 _ _ _ _)
   | (with_reducible exact LeO.refl _)
   | (with_reducible exact LeO.none _)
   | (with_reducible refine LeO.ite ?_ ?_)
   | (with_reducible refine LeO.bind ?_ (fun _=>?_))
   | exact ih0 _ _ _ _
   | exact LeO.none _
   | refine LeO.ite ?_ ?_
   | refine LeO.bind ?_ (fun _=>?_)
theorem cmp_Or_int.mono : ∀ a0 k,LeO (cmp_Or_int.f k a0) (cmp_Or_int.f (k+1) a0):=by
 intro a0 k
 have ih0:=cmp_Or_int.mono_l k
 unfold cmp_Or_int.f
 repeat' first
   | (with_reducible exact ih0 _ _ _ _)
   | (with_reducible exact LeO.refl _)
   | (with_reducible exact LeO.none _)
   | (with_reducible refine LeO.ite ?_ ?_)
   | (with_reducible refine LeO.bind ?_ (fun _=>?_))
   | exact ih0 _ _ _ _
   | exact LeO.none _
   | refine LeO.ite ?_ ?_
   | refine LeO.bind ?_ (fun _=>?_)
set_option maxHeartbeats 8000000 in
theorem cmp_Or_int.calls (k : Nat) (A0 : Option Addr) (c0 : Nat) (l0 : List Int) (r : Int) (w : World) (hr0 : Kd.C (Kd.int .i64) w A0 l0.length l0) (hc0 : l0.length ≤ c0) (h : cmp_Or_int.f k l0 = some r) :
  Calls Try.prog 58 #[.slice A0 l0.length c0] w fun e w'=>e = .returned (.int .i64 r)∧Drawn0 w w':=by
 have HR0:=aK hr0
 have HC0:=aK hc0
 clear hr0 hc0
 have H:(cmp_Or_int.l0 k 0 l0 (l0.length:Int) 0)=some r:=h
 clear h
 have H':=aK H
 clear H
 go_enter Try.func58,Try.ntmps58
 go_wp2
 go_loopg [8] k (fun kq v8 w'=>∃ (x8_1:Int),v8 = .int .i64 x8_1∧Aside0 (cmp_Or_int.l0 kq 0 l0 (l0.length:Int) x8_1=some r)∧Aside0 (kq≤k)∧Drawn0 w w')
 case atStart=>exact ⟨(0),(by first|rfl|(simp;done)|(simp [*];done)),H',⟨Nat.le_refl _⟩,by repeat (first|exact Drawn0.refl _|apply Drawn0.step)⟩
 case round =>
  clear H'
  obtain ⟨x8_1,rfl,HA,HK1,⟨m1,rfl⟩⟩:=hrel
  cases gk with
  | zero=>exact absurd HA.out (by simp [cmp_Or_int.l0])
  | succ k1 =>
   have H:=HA.out
   clear HA
   simp only [cmp_Or_int.l0] at H
   by_cases c2:x8_1<(l0.length:Int)
   ·rw [if_pos c2] at H
    have c2b0:decide (x8_1<(l0.length:Int))=true:=decide_eq_true c2
    clear c2
    by_cases c3:0≤x8_1
    ·rw [if_pos c3] at H
     have c3b0:decide (0≤x8_1)=true:=decide_eq_true c3
     clear c3
     by_cases c4:x8_1<(l0.length:Int)
     ·rw [if_pos c4] at H
      have c4b0:decide (x8_1<(l0.length:Int))=true:=decide_eq_true c4
      clear c4
      by_cases c5:(rd l0 x8_1)=0
      ·rw [if_pos c5] at H
       have c5b0:((rd l0 x8_1) == 0)=true:=beq_iff_eq.mpr c5
       have c5b1:((rd l0 x8_1) != 0)=false:=bne_eq_false_iff_eq.mpr c5
       clear c5
       have H':=aK H
       clear H
       have p106:0≤(x8_1:Int):=of_decide_eq_true (by first|(with_reducible assumption)|assumption)
       have q106:x8_1<(l0.length:Int):=of_decide_eq_true (by first|(with_reducible assumption)|assumption)
       obtain ⟨ad106,e106,hx106_0⟩:=Kd.at_int HR0.out x8_1 p106 q106
       cases e106
       replace p106:=eq_true p106
       replace q106:=eq_true q106
       go_wp2
       go_roundg k1
       case measure=>have:=HK1.out;omega
       case rel=>exact ⟨(wrap64 (x8_1+1)),(by first|rfl|(simp;done)|(simp [*];done)),H',⟨by have:=HK1.out;omega⟩,by repeat (first|exact Drawn0.refl _|apply Drawn0.step)⟩
      ·rw [if_neg c5] at H
       have c5b0:((rd l0 x8_1) == 0)=false:=beq_eq_false_iff_ne.mpr c5
       have c5b1:((rd l0 x8_1) != 0)=true:=bne_iff_ne.mpr c5
       obtain rfl:=Option.some.inj H
       have p106:0≤(x8_1:Int):=of_decide_eq_true (by first|(with_reducible assumption)|assumption)
       have q106:x8_1<(l0.length:Int):=of_decide_eq_true (by first|(with_reducible assumption)|assumption)
       obtain ⟨ad106,e106,hx106_0⟩:=Kd.at_int HR0.out x8_1 p106 q106
       cases e106
       replace p106:=eq_true p106
       replace q106:=eq_true q106
       go_wp2
       go_ret
       exact ⟨by first|rfl|(simp;done)|(simp [*];done),by repeat (first|exact Drawn0.refl _|apply Drawn0.step)⟩
     ·rw [if_neg c4] at H
      exact absurd H (by simp)
    ·rw [if_neg c3] at H
     exact absurd H (by simp)
   ·rw [if_neg c2] at H
    have c2b0:decide (x8_1<(l0.length:Int))=false:=decide_eq_false c2
    clear c2
    obtain rfl:=Option.some.inj H
    go_wp2
    go_ret
    exact ⟨by first|rfl|(simp;done)|(simp [*];done),by repeat (first|exact Drawn0.refl _|apply Drawn0.step)⟩
def cmpB (x y:S31):Int:=if x.f0<y.f0 then -1 else if y.f0<x.f0 then 1 else if x.f1<y.f1 then -1 else if y.f1<x.f1 then 1 else 0
theorem compare_int (a b:Int):cmp_Compare_int.f a b=some (if a<b then -1 else if b<a then 1 else 0):=by
 unfold cmp_Compare_int.f cmp_isNaN_int.f
 simp
 (repeat' split) <;> first|rfl|omega
theorem or_int (a b:Int):cmp_Or_int.f 5 [a,b]=some (if a=0 then b else a):=by
 have e1:wrap64 1=1:=by unfold wrap64;omega
 have e2:wrap64 2=2:=by unfold wrap64;omega
 have r0 : ∀ a b:Int,rd [a,b] 0=a:=fun _ _=>rfl
 have r1 : ∀ a b:Int,rd [a,b] 1=b:=fun _ _=>rfl
 by_cases h:a=0
 ·by_cases h':b=0
  ·simp [cmp_Or_int.f,cmp_Or_int.l0,e1,e2,r0,r1,h,h']
  ·simp [cmp_Or_int.f,cmp_Or_int.l0,e1,r0,r1,h,h']
 ·simp [cmp_Or_int.f,cmp_Or_int.l0,r0,h]
theorem intRow2 (W:World) (a b:Int) (e:TypeId):Kd.C (Kd.int .i64) (W.alloc (.cells #[.int .i64 a,.int .i64 b] e)) (some ⟨W.heap.size,0,none⟩) ([a,b]:List Int).length [a,b]:=by
 refine ⟨rfl,by simp,fun _=>⟨⟨W.heap.size,0,none⟩,rfl,fun j p hj=>?_⟩⟩
 match j,hj with
 | 0,hj =>
  obtain rfl:a=p:=by simpa using hj
  refine ⟨[.int .i64 a],rfl,rfl,fun i u hi=>?_⟩
  cases i with
  | zero =>
   obtain rfl:Value.int .i64 a=u:=by simpa using hi
   simp [Kd.int,Addr.add]
  | succ i=>simp at hi
 | 1,hj =>
  obtain rfl:b=p:=by simpa using hj
  refine ⟨[.int .i64 b],rfl,rfl,fun i u hi=>?_⟩
  cases i with
  | zero =>
   obtain rfl:Value.int .i64 b=u:=by simpa using hi
   show (W.alloc (.cells #[.int .i64 a,.int .i64 b] e)).cell? ⟨W.heap.size,0+1*1+0,none⟩=some (.int .i64 b)
   exact (blk_cell (blk_new W (.cells #[.int .i64 a,.int .i64 b] e)) 1).trans rfl
  | succ i=>simp at hi
 | j+2,hj=>simp at hj
theorem grow_of_below {W w':World} (h:Below W.heap.size W w') (hd:W.drawn≤w'.drawn) : ∃ q os',w'=Go.Sort.grow (W.drewN q) os':=by
 refine ⟨w'.drawn-W.drawn,w'.heap.extract W.heap.size w'.heap.size,?_⟩
 have hh:w'.heap=W.heap++w'.heap.extract W.heap.size w'.heap.size:=by
  apply Array.ext_getElem?
  intro i
  rw [Array.getElem?_append]
  by_cases hi:i<W.heap.size
  ·rw [if_pos hi];exact h.block i hi
  ·rw [if_neg hi,Array.getElem?_extract]
   have hs:=h.size
   by_cases hj:i<w'.heap.size
   ·rw [if_pos (by omega)];congr 1;omega
   ·rw [if_neg (by omega),Array.getElem?_eq_none (by omega)]
 have e1:=h.os;have e2:=h.tape;have e3:=h.output
 cases w';cases W
 simp only [Go.Sort.grow,World.drewN] at *
 subst e1;subst e2;subst e3
 congr 1
 omega
set_option maxHeartbeats 4000000 in
theorem compare_grows (x y:S31) (W:World):Calls Try.prog 43 #[.agg #[.int .i64 x.f0,.int .i64 x.f1],.agg #[.int .i64 y.f0,.int .i64 y.f1]] W fun e w'=>e = .returned (.int .i64 (cmpB x y))∧Below W.heap.size W w'∧W.drawn≤w'.drawn:=by
 have hu:=Try.underlying31
 obtain ⟨c1,h1⟩ : ∃ c,c=(if x.f0<y.f0 then (-1:Int) else if y.f0<x.f0 then 1 else 0):=⟨_,rfl⟩
 obtain ⟨c2,h2⟩ : ∃ c,c=(if x.f1<y.f1 then (-1:Int) else if y.f1<x.f1 then 1 else 0):=⟨_,rfl⟩
 have hr:cmpB x y=if c1=0 then c2 else c1:=by
  unfold cmpB;subst h1;subst h2
  (repeat' split) <;> first|rfl|omega
 have HC1:=aK (fun V=>cmp_Compare_int.calls x.f0 y.f0 c1 V (by rw [compare_int,h1]))
 have HC2:=aK (fun V=>cmp_Compare_int.calls x.f1 y.f1 c2 V (by rw [compare_int,h2]))
 have hor : ∀ (V:World) (A:Option Addr),Kd.C (Kd.int .i64) V A 2 [c1,c2]→Calls Try.prog 58 #[.slice A 2 2] V fun e w'=>e = .returned (.int .i64 (cmpB x y))∧Drawn0 V w':=fun V A hC=>cmp_Or_int.calls 5 A 2 [c1,c2] (cmpB x y) V hC (by simp) (by rw [or_int,hr])
 have HOR:=aK hor
 clear hr h1 h2 hor
 generalize cmpB x y=r at *
 have p1:((W.alloc (.cells #[.int .i64 x.f0,.int .i64 x.f1] 31)).alloc (.cells #[.int .i64 y.f0,.int .i64 y.f1] 31)).drew.cell? ⟨W.heap.size,0,none⟩=some (.int .i64 x.f0):=by go_simp
 have p2:((W.alloc (.cells #[.int .i64 x.f0,.int .i64 x.f1] 31)).alloc (.cells #[.int .i64 y.f0,.int .i64 y.f1] 31)).drew.cell? ⟨W.heap.size,1,none⟩=some (.int .i64 x.f1):=by go_simp
 have p3:((W.alloc (.cells #[.int .i64 x.f0,.int .i64 x.f1] 31)).alloc (.cells #[.int .i64 y.f0,.int .i64 y.f1] 31)).drew.cell? ⟨W.heap.size+1,0,none⟩=some (.int .i64 y.f0):=by go_simp
 have p4:((W.alloc (.cells #[.int .i64 x.f0,.int .i64 x.f1] 31)).alloc (.cells #[.int .i64 y.f0,.int .i64 y.f1] 31)).drew.cell? ⟨W.heap.size+1,1,none⟩=some (.int .i64 y.f1):=by go_simp
 have hB:=below_drew1 (below_alloc (below_alloc (Below.refl W.heap.size W) (.cells #[.int .i64 x.f0,.int .i64 x.f1] 31)) (.cells #[.int .i64 y.f0,.int .i64 y.f1] 31))
 have hD:W.drawn≤((W.alloc (.cells #[.int .i64 x.f0,.int .i64 x.f1] 31)).alloc (.cells #[.int .i64 y.f0,.int .i64 y.f1] 31)).drew.drawn:=Nat.le_add_right _ 1
 have P1:=aK p1
 have P2:=aK p2
 have P3:=aK p3
 have P4:=aK p4
 have HB:=aK hB
 have HD:=aK hD
 clear p1 p2 p3 p4 hB hD
 go_enter Try.func43,Try.ntmps43
 go_wp2
 refine start_ (n:=13) (S:=fun w'=>w'.cell? ⟨W.heap.size,0,none⟩=some (.int .i64 x.f0)∧w'.cell? ⟨W.heap.size,1,none⟩=some (.int .i64 x.f1)∧w'.cell? ⟨W.heap.size+1,0,none⟩=some (.int .i64 y.f0)∧w'.cell? ⟨W.heap.size+1,1,none⟩=some (.int .i64 y.f1)∧Below W.heap.size W w'∧W.drawn≤w'.drawn) (ds:=[10,11]) #[false,false,false,false,false,false,false,false,false,false,false,false,false] (by kernel_rfl) rfl rfl ⟨P1.out,P2.out,P3.out,P4.out,HB.out,HD.out⟩ (fun hHeld=>?_)
 refine pure_ (i:=0) (N:=some 5) (v:=?_) (a':=?_) #[true,false,false,false,false,false,false,false,false,false,false,false,false] rfl rfl (by kernel_rfl) (fun _ _ _ h=>h) (Or.inl ⟨by rfl,?_⟩) ?_ ?_
 rotate_left
 ·intro w'
  go_simp
  with_reducible rfl
 rotate_left
 ·simp only [Act.put,lS,i64_w,i32_w]
  rfl
 refine pure_ (i:=2) (N:=some 7) (v:=?_) (a':=?_) #[true,false,true,false,false,false,false,false,false,false,false,false,false] rfl rfl (by kernel_rfl) (fun _ _ _ h=>h) (Or.inl ⟨by rfl,?_⟩) ?_ ?_
 rotate_left
 ·intro w'
  go_simp
  with_reducible rfl
 rotate_left
 ·simp only [Act.put,lS,i64_w,i32_w]
  rfl
 refine pure_ (i:=5) (N:=some 10) (v:=?_) (a':=?_) #[true,false,true,false,false,true,false,false,false,false,false,false,false] rfl rfl (by kernel_rfl) (fun _ _ _ h=>h) (Or.inl ⟨by rfl,?_⟩) ?_ ?_
 rotate_left
 ·intro w'
  go_simp
  with_reducible rfl
 rotate_left
 ·simp only [Act.put,lS,i64_w,i32_w]
  rfl
 refine pure_ (i:=7) (N:=some 12) (v:=?_) (a':=?_) #[true,false,true,false,false,true,false,true,false,false,false,false,false] rfl rfl (by kernel_rfl) (fun _ _ _ h=>h) (Or.inl ⟨by rfl,?_⟩) ?_ ?_
 rotate_left
 ·intro w'
  go_simp
  with_reducible rfl
 rotate_left
 ·simp only [Act.put,lS,i64_w,i32_w]
  rfl
 refine take_ (i:=1) (N:=some 6) (v:=?_) (a':=?_) #[true,true,true,false,false,true,false,true,false,false,false,false,false] rfl rfl (by kernel_rfl) (fun _ _ _ h=>h) (Or.inl ⟨by rfl,?_⟩) hHeld ?_ ?_
 rotate_left
 ·rintro w' ⟨s0,s1,s2,s3,s4,s5⟩
  go_simp
  with_reducible rfl
 rotate_left
 ·simp only [Act.put,lS,i64_w,i32_w]
  rfl
 refine take_ (i:=3) (N:=some 8) (v:=?_) (a':=?_) #[true,true,true,true,false,true,false,true,false,false,false,false,false] rfl rfl (by kernel_rfl) (fun _ _ _ h=>h) (Or.inl ⟨by rfl,?_⟩) hHeld ?_ ?_
 rotate_left
 ·rintro w' ⟨s0,s1,s2,s3,s4,s5⟩
  go_simp
  with_reducible rfl
 rotate_left
 ·simp only [Act.put,lS,i64_w,i32_w]
  rfl
 refine take_ (i:=6) (N:=some 11) (v:=?_) (a':=?_) #[true,true,true,true,false,true,true,true,false,false,false,false,false] rfl rfl (by kernel_rfl) (fun _ _ _ h=>h) (Or.inl ⟨by rfl,?_⟩) hHeld ?_ ?_
 rotate_left
 ·rintro w' ⟨s0,s1,s2,s3,s4,s5⟩
  go_simp
  with_reducible rfl
 rotate_left
 ·simp only [Act.put,lS,i64_w,i32_w]
  rfl
 refine take_ (i:=8) (N:=some 13) (v:=?_) (a':=?_) #[true,true,true,true,false,true,true,true,true,false,false,false,false] rfl rfl (by kernel_rfl) (fun _ _ _ h=>h) (Or.inl ⟨by rfl,?_⟩) hHeld ?_ ?_
 rotate_left
 ·rintro w' ⟨s0,s1,s2,s3,s4,s5⟩
  go_simp
  with_reducible rfl
 rotate_left
 ·simp only [Act.put,lS,i64_w,i32_w]
  rfl
 refine one_ (i:=4) (N:=some 9) #[true,true,true,true,true,true,true,true,true,false,false,false,false] rfl rfl (by kernel_rfl) (by decide) (fun K hK=>?_)
 refine goes_ Try.func39 (by kernel_rfl) rfl #[.int .i64 x.f0,.int .i64 y.f0] (by rfl) rfl rfl (by simp only [List.map_toArray,List.map_cons,List.map_nil];rfl) ?_
 with_reducible refine (HC1.out _).mono ?_
 rintro e w3 ⟨rfl,⟨n3,rfl⟩⟩
 refine ⟨_,rfl,?_⟩
 refine hK.out _ _ ⟨hHeld.1,hHeld.2.1,hHeld.2.2.1,hHeld.2.2.2.1,pw_below_drewN hHeld.2.2.2.2.1 n3,Nat.le_trans hHeld.2.2.2.2.2 (Nat.le_add_right _ _)⟩ (fun hHeld=>?_)
 clear hK K
 refine norm_ (a':=?_) ?_ ?_
 rotate_left
 ·show Act.put _ (some 9) _=_
  simp only [Act.put,lS,i64_w,i32_w]
  rfl
 refine one_ (i:=9) (N:=some 14) #[true,true,true,true,true,true,true,true,true,true,false,false,false] rfl rfl (by kernel_rfl) (by decide) (fun K hK=>?_)
 refine goes_ Try.func39 (by kernel_rfl) rfl #[.int .i64 x.f1,.int .i64 y.f1] (by rfl) rfl rfl (by simp only [List.map_toArray,List.map_cons,List.map_nil];rfl) ?_
 with_reducible refine (HC2.out _).mono ?_
 rintro e w3 ⟨rfl,⟨n4,rfl⟩⟩
 refine ⟨_,rfl,?_⟩
 refine hK.out _ _ ⟨hHeld.1,hHeld.2.1,hHeld.2.2.1,hHeld.2.2.2.1,pw_below_drewN hHeld.2.2.2.2.1 n4,Nat.le_trans hHeld.2.2.2.2.2 (Nat.le_add_right _ _)⟩ (fun hHeld=>?_)
 clear hK K
 refine norm_ (a':=?_) ?_ ?_
 rotate_left
 ·show Act.put _ (some 14) _=_
  simp only [Act.put,lS,i64_w,i32_w]
  rfl
 refine last_ (i:=10) (N:=some 15) #[true,true,true,true,true,true,true,true,true,true,true,false,false] rfl rfl (by kernel_rfl) (by decide) (fun K hK=>?_)
 refine value_ (w1:=?_) (v:=?_) (by rfl) rfl ?_ ?_
 rotate_left 2
 ·go_simp
  constructor
  ·rfl
  ·rfl
 refine hK.out _ _ ?_
 clear hK K
 refine norm_ (a':=?_) ?_ ?_
 rotate_left
 ·show Act.put _ (some 15) _=_
  simp only [Act.put,lS,i64_w,i32_w]
  rfl
 refine last_ (i:=11) (N:=some 16) #[true,true,true,true,true,true,true,true,true,true,true,true,false] rfl rfl (by kernel_rfl) (by decide) (fun K hK=>?_)
 have hi:=intRow2 (((W.alloc (.cells #[.int .i64 x.f0,.int .i64 x.f1] 31)).alloc (.cells #[.int .i64 y.f0,.int .i64 y.f1] 31)).drewN (1+n3+n4)) c1 c2 3
 rw [show (((W.alloc (.cells #[.int .i64 x.f0,.int .i64 x.f1] 31)).alloc (.cells #[.int .i64 y.f0,.int .i64 y.f1] 31)).drewN (1+n3+n4)).heap.size=W.heap.size+1+1 by simp] at hi
 refine goes_ Try.func58 (by kernel_rfl) rfl #[.slice (some ⟨W.heap.size+1+1,0,none⟩) 2 2] (by rfl) rfl rfl (by simp only [List.map_toArray,List.map_cons,List.map_nil];rfl) ?_
 with_reducible refine (HOR.out _ _ hi).mono ?_
 rintro e w3 ⟨rfl,⟨n5,rfl⟩⟩
 refine ⟨_,rfl,?_⟩
 refine hK.out _ _ ?_
 clear hK K
 refine norm_ (a':=?_) ?_ ?_
 rotate_left
 ·show Act.put _ (some 16) _=_
  simp only [Act.put,lS,i64_w,i32_w]
  rfl
 refine pure_ (i:=12) (N:=some 4) (v:=?_) (a':=?_) #[true,true,true,true,true,true,true,true,true,true,true,true,true] rfl rfl (by kernel_rfl) (fun _ _ _ h=>h) (Or.inl ⟨by rfl,?_⟩) ?_ ?_
 rotate_left
 ·intro w'
  go_simp
  with_reducible rfl
 rotate_left
 ·simp only [Act.put,lS,i64_w,i32_w]
  rfl
 refine done_ (by kernel_rfl) ?_
 go_wp2
 go_ret
 exact ⟨rfl,pw_below_drewN (below_alloc (pw_below_drewN (below_alloc (below_alloc (Below.refl W.heap.size W) _) _) _) _) _,by show W.drawn≤W.drawn+(1+n3+n4)+n5;omega⟩
theorem cmpB_lt (x y:S31):cmpB x y<0↔x.f0<y.f0∨x.f0=y.f0∧x.f1<y.f1:=by
 unfold cmpB
 (repeat' split) <;> omega
theorem pt_ext {x y:S31} (h0:x.f0=y.f0) (h1:x.f1=y.f1):x=y:=by
 cases x;cases y;simp only at h0 h1;subst h0;subst h1;rfl
theorem cmp_lays (blk off size:Nat) (w:World):CmpLays Try.prog 43 #[] encP 2 cmpB blk off size w:=fun m os dk _ x y =>
 (compare_grows x y _).mono fun e w' ⟨he,hb,hd⟩=>⟨he,grow_of_below hb hd⟩
theorem cmp_swo:Go.Sort.SWO (ltOf cmpB):=by
 refine ⟨fun x=>?_,fun x y z h1 h2=>?_,fun x y z h1 h2=>?_⟩ <;> simp only [ltOf,decide_eq_true_eq,decide_eq_false_iff_not,cmpB_lt] at * <;> omega
theorem cmp_total (x y:S31) (h1:ltOf cmpB x y=false) (h2:ltOf cmpB y x=false):x=y:=by
 simp only [ltOf,decide_eq_false_iff_not,cmpB_lt] at h1 h2
 exact pt_ext (by omega) (by omega)
def insB (x : S31) : List S31 → List S31
 | []=>[x]
 | y::l=>if cmpB y x<0 then y::insB x l else x::y::l
def isort (l:List S31):List S31:=l.foldr insB []
theorem insB_perm (x : S31) : ∀ l, (insB x l).Perm (x :: l)
 | []=>List.Perm.refl _
 | y::l=>by
  unfold insB
  split
  ·exact ((insB_perm x l).cons y).trans (List.Perm.swap x y l)
  ·exact List.Perm.refl _
theorem isort_perm : ∀ l, (isort l).Perm l
 | []=>List.Perm.refl _
 | x::l=>(insB_perm x _).trans ((isort_perm l).cons x)
def LeP (x y:S31):Prop:=¬ cmpB y x<0
theorem insB_sorted (x : S31) : ∀ l, l.Pairwise LeP → (insB x l).Pairwise LeP
 | [],_=>List.pairwise_singleton _ _
 | y::l,h=>by
  obtain ⟨h1,h2⟩:=List.pairwise_cons.mp h
  unfold insB
  split
  ·rename_i hc
   refine List.pairwise_cons.mpr ⟨fun z hz=>?_,insB_sorted x l h2⟩
   rcases List.mem_cons.mp ((insB_perm x l).mem_iff.mp hz) with rfl|hz
   ·unfold LeP;rw [cmpB_lt] at hc ⊢;omega
   ·exact h1 z hz
  ·rename_i hc
   refine List.pairwise_cons.mpr ⟨fun z hz=>?_,h⟩
   rcases List.mem_cons.mp hz with rfl|hz
   ·exact hc
   ·have:=h1 z hz
    unfold LeP at this ⊢;rw [cmpB_lt] at this hc ⊢;omega
theorem isort_sorted : ∀ l, (isort l).Pairwise LeP
 | []=>List.Pairwise.nil
 | x::l=>insB_sorted x _ (isort_sorted l)
theorem isort_merge (l:List S31):l.mergeSort (fun x y=>!(ltOf cmpB) y x)=isort l:=by
 refine List.Perm.eq_of_pairwise (le:=LeP) ?_ ?_ (isort_sorted l) ((List.mergeSort_perm l _).trans (isort_perm l).symm)
 ·intro a b _ _ h1 h2
  unfold LeP at h1 h2
  rw [cmpB_lt] at h1 h2
  exact pt_ext (by omega) (by omega)
 ·have:=List.pairwise_mergeSort (le:=fun x y=>!(ltOf cmpB) y x) (fun a b c h1 h2=>by
   simp only [ltOf,Bool.not_eq_true',decide_eq_false_iff_not,cmpB_lt] at *;omega) (fun a b=>by
   simp only [ltOf,Bool.or_eq_true,Bool.not_eq_true',decide_eq_false_iff_not,cmpB_lt];omega) l
  exact this.imp (fun {a b} h=>by
   simp only [ltOf,Bool.not_eq_true',decide_eq_false_iff_not] at h;exact h)
def api_Point_78.f (l0:List S31):Option (List S31):=if l0.length<4611686018427387904 then some (isort l0) else none
theorem api_Point_78.calls (P0_ : Nat → Prop) (u9000_ : Value) (l0 : List S31) (r : List S31) (w0 w : World) (hB : Below w0.heap.size w0 w) (ho0 : Kd.R k31 31 w w0.heap.size P0_ u9000_ l0) (h : api_Point_78.f l0 = some r) :
  Calls Try.prog 78 #[u9000_,.func (.func 43) #[] #[]] w fun e w'=>e = .returned (.tuple #[])∧Kd.R k31 31 w' w0.heap.size (fun k_=>(P0_ k_∨w.heap.size≤k_)) u9000_ r∧Below w0.heap.size w0 w'∧Kept w w' (fun k_=>P0_ k_):=by
 unfold api_Point_78.f at h
 by_cases hl:l0.length<4611686018427387904
 ·rw [if_pos hl] at h
  injection h with h
  obtain ⟨h0,inner,ho,hr⟩:=ho0
  have hi:=cells_flatP hr
  rcases ho.2 with ⟨rfl,hn⟩|⟨g,cap,cur,rfl,hbase,hh,hle,hcap,hsz,htk⟩
  ·have hl0:l0=[]:=List.length_eq_zero_iff.mp hn
   subst hl0
   refine (Go.Proofs.AnyF.slices_SortFunc_none Try.sortP none 0 _ w).mono ?_
   rintro e w' ⟨rfl,rfl⟩
   refine ⟨rfl,?_,hB,Kept.refl _ _⟩
   have:r=[]:=by rw [← h];rfl
   subst this
   exact Kd.R_nil _ _ _ _ _
  ·have hk2:k31.sz=2:=rfl
   rw [hk2] at hsz htk
   have hin:inner.length=l0.length*2:=hr.1
   have hH:Go.Sort.HoldsK encP 2 w g 0 l0.toArray:=by
    unfold Go.Sort.HoldsK
    rw [hi]
    exact holds_row hh (by rw [hin];exact htk)
   have hlt:=lt_of_block hh
   refine (Go.Proofs.AnyQ.slices_SortFunc_total Try.sortP 2 Try.isAgg31 Try.sizeOf31 encP (fun _=>rfl) (fun x v hv=>by simp [encP] at hv;rcases hv with rfl|rfl <;> rfl) cmpB cmp_swo 43 #[] g 0 cap l0.toArray w (enters_own Try.func43 (by kernel_rfl) rfl) (cmp_lays _ _ _ _) hH hlt (by simpa using hl) cmp_total).mono ?_
   rintro e w' ⟨rfl,n,os,rfl⟩
   have hrev:(l0.toArray.toList.mergeSort fun x y=>!(ltOf cmpB) y x)=r:=by rw [← h];exact isort_merge l0
   rw [hrev]
   have hlen:r.length=l0.length:=by rw [← h];exact (isort_perm l0).length_eq
   unfold sortWorldK Go.Sort.putRowK
   have hF:(Go.Sort.flatK encP 2 r.toArray).size=l0.length*2:=by simp [hlen]
   have hg0:w.grownBy (Go.Sort.putRow id (Go.Sort.ahead w n) g 0 (Go.Sort.flatK encP 2 r.toArray)) (some g):=grownBy_row _
   have hgw : ∀ (V:World),V.grownBy (Go.Sort.grow V os) none:=fun V=>⟨rfl,rfl,rfl,by simp [Go.Sort.grow],fun k hk _=>by simp [Go.Sort.grow,Array.getElem?_append,hk]⟩
   have hg:w.grownBy (Go.Sort.grow (Go.Sort.putRow id (Go.Sort.ahead w n) g 0 (Go.Sort.flatK encP 2 r.toArray)) os) (some g):=by
    have h2:=hgw (Go.Sort.putRow id (Go.Sort.ahead w n) g 0 (Go.Sort.flatK encP 2 r.toArray))
    exact ⟨h2.os.trans hg0.os,h2.tape.trans hg0.tape,h2.output.trans hg0.output,Nat.le_trans hg0.size h2.size,fun k hk hne=>(h2.block k (Nat.lt_of_lt_of_le hk hg0.size) (by simp)).trans (hg0.block k hk hne)⟩
   have hok:P0_ g:=h0 g (by simp [Value.ownBlock])
   refine ⟨rfl,?_,?_,?_⟩
   ·refine ⟨fun k hk=>Or.inl (h0 k hk),(Go.Sort.flatK encP 2 r.toArray).toList,?_,reps_flatP r⟩
    have hb2:(Go.Sort.grow (Go.Sort.putRow id (Go.Sort.ahead w n) g 0 (Go.Sort.flatK encP 2 r.toArray)) os).heap[g]?=some (.cells (Go.Sort.putCells id 0 (Go.Sort.flatK encP 2 r.toArray) cur) 31 (0,0)):=by
     have h2:=(hgw (Go.Sort.putRow id (Go.Sort.ahead w n) g 0 (Go.Sort.flatK encP 2 r.toArray))).block g (Nat.lt_of_lt_of_le hlt hg0.size) (by simp)
     rw [h2]
     exact heap_row _ hh
    refine ⟨by rw [hk2,Array.length_toList,hF,hlen],.inr ⟨g,cap,_,by rw [hlen],hbase,hb2,by omega,hcap,by rw [hk2];simp [Go.Sort.putCells,hsz],?_⟩⟩
    have:=take_row cur (Go.Sort.flatK encP 2 r.toArray) (by rw [hF,hsz];omega)
    rw [hk2,hlen]
    rw [hF] at this
    exact this
   ·exact hB.grown hg hB.size (fun k hk=>by injection hk with hk;omega)
   ·exact Kept.of_grown hg (Kept.refl w _) (fun k hk=>by injection hk with hk;subst hk;exact Or.inl hok)
 ·rw [if_neg hl] at h
  exact absurd h (by simp)
end Go.Proofs.Ytckjlckhjcbddaa.PH3
