import Derived.Test.YtoemkemmiikhlaaGreatPF4x0
import Derived.Test.YtoemkemmiikhlaaGreatPF4x2
import Derived.Test.YtoemkemmiikhlaaGreatPF4x3
import Derived.Test.YtoemkemmiikhlaaGreatPF4x5
import Derived.Test.YtoemkemmiikhlaaGreatPF4x7
import Derived.Test.YtoemkemmiikhlaaGreatPF4x8
import Derived.Test.YtoemkemmiikhlaaGreatPF4x10
import Derived.Test.YtoemkemmiikhlaaGreatPF4x11
import Derived.Test.YtoemkemmiikhlaaGreatPF4x12
import Derived.Test.YtoemkemmiikhlaaGreatPF4x13
import Derived.Test.YtoemkemmiikhlaaGreatPF4x14
import Derived.Test.YtoemkemmiikhlaaGreatPF4x15
namespace Go.Proofs.YtoemkemmiikhlaaGreat.PF4
open Go.RowKit Go.Proofs.YtoemkemmiikhlaaGreatW.PrintWords Go.Proofs.YtoemkemmiikhlaaGreatW.PrintLast Go.Proofs.YtoemkemmiikhlaaGreatW.PrintMore
attribute [local go_sem] max2_int min2_int max_two min_two max_three min_three max_four min_four
set_option linter.unusedVariables false
set_option linter.unusedSimpArgs false
theorem own_keeps {P : Program} (W : World) (base : Nat) (t ty e : TypeId) (i : TypeInfo) (z : Value) (size bytes : Nat) (ht : P.underlying t = some (.slice e)) (hi : P.info? e = some i) (hz : i.zero = some z)
  (hsize:i.size=size) (hby:i.bytes=bytes) (hzs:z.cells.size=size) (hsz:0<size) (v:Value) (n:Nat) (xs:List Value) (hown:W.ownsRow base e size v n xs)
  (a:Addr) (m c:Nat) (news:List Value) (hl:news.length=m*size) (hnews : ∀ j u,news[j]?=some u→W.cell? (a.add j)=some u) (h1 : ∀ u∈news,u.oneCell'=true)
  (h63:n+m≤maxLen) (hbytes:(n+m)*bytes≤140737488355328) (hbase:base≤W.heap.size) :
  ∃ v' w',(Builtin.append_ #[t,t] ty #[v,.slice (some a) m c]).run P W = .ok v' w'∧w'.ownsRow base e size v' (n+m) (xs++news)∧W.grownBy w' v.ownBlock∧w'.ownsRow base e size v n xs:=by
 obtain ⟨v',w',hr,h2,h3,-,-⟩:=run_append_own_at W base t ty e i z size bytes ht hi hz hsize hby hzs hsz v n xs hown a m c news hl hnews h1 h63 hbytes hbase
 refine ⟨v',w',hr,h2,h3,?_⟩
 subst hsize
 rcases hown.2 with hn|⟨g,cap,cur,rfl,hbg,hg,hnc,hcm,hcs,htake⟩
 ·exact ⟨hown.1,.inl hn⟩
 ·have hxl:=hown.1
  by_cases hroom:n+m≤cap
  ·have hfit:n*i.size+news.length≤cur.size:=by rw [hl,hcs,← Nat.add_mul];exact Nat.mul_le_mul_right _ hroom
   have hq:=hr.symm.trans (run_append_room (P:=P) W t ty e i ht hi g n cap cur hg a m c news hl hnews h1 hroom hfit)
   injection hq with _ hw
   subst hw
   refine ⟨hxl,.inr ⟨g,cap,_,rfl,hbg,setRow_heap W g cur _ e _ hg,hnc,hcm,?_,?_⟩⟩
   ·simp only [List.size_toArray,List.length_append,List.length_take,List.length_drop,Array.length_toList]
    omega
   ·have ht2:cur.toList.take (n*i.size)=xs:=htake
    rw [ht2,List.append_assoc,List.toList_toArray,← hxl]
    exact List.take_left
  ·have holds : ∀ j u,xs[j]?=some u→W.cell? ((⟨g,0,none⟩:Addr).add j)=some u:=hown.cells (g:=g) rfl
   have hq:=hr.symm.trans (run_append_grow (P:=P) W t ty e i z ht hi hz ⟨g,0,none⟩ n cap xs hxl holds a m c news hl hnews (by omega) (by simp only [maxLen] at h63;omega) (growslice_fits (by omega) (by rw [hby];exact hbytes)))
   injection hq with _ hw
   subst hw
   have hlt:g<W.heap.size:=(Array.getElem?_eq_some_iff.1 hg).1
   exact ⟨hxl,.inr ⟨g,cap,cur,rfl,hbg,(Array.getElem?_push_lt (xs:=W.drew.heap) (h:=hlt) |>.trans (Array.getElem?_eq_getElem hlt).symm).trans hg,hnc,hcm,hcs,htake⟩⟩
theorem append_keeps {P : Program} {ops : Array Oper} {rest : List Oper} {o : Oper} {a : Act} {Q : Exit → Act → World → Prop} {w0 W : World} (base : Nat) (hgd : o.guard = none) (s x : Operand) (t e : TypeId)
  (ho:o.op = .call { callee:=.builtin .append,args:=#[s,x],argTypes:=#[t,t] })
  (ht:P.underlying t=some (.slice e)) (hinfo:(P.info? e).map (fun i=>(i.zero,i.size,i.bytes))=some (some (.int .u8 0),1,1))
  (v:Value) (xs:List Int) (p:Int) (hs:a.eval s=v) (hx:a.eval x = .slice (some ⟨W.heap.size,0,none⟩) 1 1)
  (HO:Kd.R (Kd.int .u8) e W base (fun _=>True) v xs) (HB:Below base w0 W) (hbase:base≤W.heap.size) (hl:xs.length+1≤140737488355328)
  (h : ∀ v1 w1,Kd.R (Kd.int .u8) e w1 base (fun _=>True) v1 (xs++[p])→Kd.R (Kd.int .u8) e w1 base (fun _=>True) v xs→Below base w0 w1→W.grownBy w1 v.ownBlock→wpList P ops Q rest (a.put o.dst v1) w1) :
  wpList P ops Q (o::rest) a (W.alloc (.cells #[.int .u8 p] e)):=by
 obtain ⟨i0,hi,hzz⟩:=Option.map_eq_some_iff.1 hinfo
 simp only [Prod.mk.injEq] at hzz
 obtain ⟨hz0,hz1,hz2⟩:=hzz
 have hown:W.ownsRow base e 1 v xs.length (encs (Value.int .u8) xs):=Kd.own_of_R (enc:=Value.int .u8) (h1:=fun _=>rfl) HO
 obtain ⟨v1, w1, hr, h2, h3, h4⟩ := own_keeps (P := P) (W.alloc (.cells #[.int .u8 p] e)) base t o.type e i0 (.int .u8 0) 1 1 ht hi hz0 hz1 hz2 rfl (by decide) v xs.length _ (hown.alloc _) ⟨W.heap.size, 0, none⟩ 1 1 [.int .u8 p] rfl
  (cell_one_new W (.int .u8 p) e) (by simp [Value.oneCell']) (by simp only [maxLen];omega) (by omega) (by simp;omega)
 refine wpList_plain hgd fun K hK=>?_
 unfold Oper.wp execOp
 simp only [ho,resolve,invoke,builtin,Sem.run_bind,Sem.run_pure,Result.andThen_ok,List.map_toArray,List.map_cons,List.map_nil,hs,hx,hr]
 have e1:encs (Value.int .u8) xs++[.int .u8 p]=encs (Value.int .u8) (xs++[p]):=by simp [encs]
 rw [e1] at h2
 exact hK _ _ (h v1 w1 (Kd.R_of_own (enc:=Value.int .u8) (h1:=fun _=>rfl) (by rw [List.length_append];exact h2) (fun _ _=>trivial)) (Kd.R_of_own (enc:=Value.int .u8) (h1:=fun _=>rfl) h4 (fun _ _=>trivial)) ((HB.alloc hbase _).grown h3 (by simp;omega) (own_base hown)) (World.grownBy.trans (World.grownBy_alloc W _ _) h3))
theorem eqIn_a3 (d : Nat) (w : World) (x0 y0 : Int) (x1 y1 : Int) (x2 y2 : Int) :
  (Op.equalIn (d+2) 47 (.agg #[.int .i64 x0,.int .i64 x1,.int .i64 x2]) (.agg #[.int .i64 y0,.int .i64 y1,.int .i64 y2])).run Tryz.prog w = .ok (x0 == y0 && (x1 == y1 && (x2 == y2))) w:=by
 unfold Op.equalIn
 simp [go_sem,List.range',Tryz.underlying47]
 by_cases h0:x0=y0
 ·by_cases h1:x1=y1
  ·by_cases h2:x2=y2
   ·simp [h0,h1,h2,go_sem]
   ·simp [h0,h1,h2,go_sem]
  ·simp [h0,h1,go_sem]
 ·simp [h0,go_sem]
attribute [local go_sem high] eqIn_a3
theorem lit1_C {W:World} {b:Nat} {x:S50} (hb:W.heap[b]?=some (.cells #[.int .i64 x.f0,.int .i64 x.f1,.int .i64 x.f2,.int .i64 x.f3] 50 (0,0))):Kd.C k50 W (some ⟨b,0,none⟩) 1 [x]:=by
 refine ⟨rfl,by decide,fun _=>⟨⟨b,0,none⟩,rfl,fun j p hj=>?_⟩⟩
 rcases j with _|j
 ·obtain rfl:x=p:=by simpa using hj
  refine ⟨_,rfl,k50_mk W x,fun i u hu=>?_⟩
  rw [add_plain,Nat.zero_mul,Nat.zero_add,blk_cell hb i]
  rw [← hu,← List.getElem?_toArray]
 ·simp at hj
theorem lit1_R {W:World} {b:Nat} {x:S45} (hb:W.heap[b]?=some (.cells #[.int .i64 x.f0,.int .i64 x.f1,.int .i64 x.f2,.int .i64 x.f3] 45 (0,0))):Kd.C k45 W (some ⟨b,0,none⟩) 1 [x]:=by
 refine ⟨rfl,by decide,fun _=>⟨⟨b,0,none⟩,rfl,fun j p hj=>?_⟩⟩
 rcases j with _|j
 ·obtain rfl:x=p:=by simpa using hj
  refine ⟨_,rfl,k45_mk W x,fun i u hu=>?_⟩
  rw [add_plain,Nat.zero_mul,Nat.zero_add,blk_cell hb i]
  rw [← hu,← List.getElem?_toArray]
 ·simp at hj
def gl1 (n:Int):GlyphV:=⟨n,0,0,0,none,0,0⟩
theorem lit2_G {W:World} {b:Nat} {m n:Int} (hb:W.heap[b]?=some (.cells #[.int .i64 m,.int .i64 0,.int .i64 0,.int .i64 0,.slice none 0 0,.int .i64 n,.int .i64 0,.int .i64 0,.int .i64 0,.slice none 0 0] 42 (0,0))):Kd.C kGl W (some ⟨b,0,none⟩) 2 [gl1 m,gl1 n]:=by
 refine ⟨rfl,by decide,fun _=>⟨⟨b,0,none⟩,rfl,fun j p hj=>?_⟩⟩
 rcases j with _|j
 ·obtain rfl:gl1 m=p:=by simpa using hj
  refine ⟨_,rfl,rfl,fun i u hu=>?_⟩
  rw [add_plain,Nat.zero_mul,Nat.zero_add,blk_cell hb i]
  rcases i with _|_|_|_|_|i <;> first|exact hu|(simp [GlyphV.cells] at hu)
 ·rcases j with _|j
  ·obtain rfl:gl1 n=p:=by simpa using hj
   refine ⟨_,rfl,rfl,fun i u hu=>?_⟩
   rw [add_plain,blk_cell hb]
   rcases i with _|_|_|_|_|i <;> first|exact hu|(simp [GlyphV.cells] at hu)
  ·simp at hj
def awF:List Int:=[70,77,69,84,0,1,0,0,0,0,0,0,0,0,0,0,0,0,0,0,3,5]
def awC:List S50:=[⟨1,5,-3,1⟩]
def awR:List S45:=[⟨1,1,0,-4⟩]
theorem aw_file:fileB 65536 [] []=awF:=by
 have h : ∀ k,tabJ [] k=[]:=fun k=>by unfold tabJ tabB;rw [List.map_nil,List.mergeSort_nil];rfl
 have h1:bodyB 65536 [] []=[70,77,69,84,0,1,0,0,0,0,0,0,0,0,0,0,0,0]:=by
  unfold bodyB headB
  simp only [List.range,List.range.loop,List.flatMap_cons,List.flatMap_nil,h]
  rfl
 unfold fileB
 rw [h1]
 rfl
theorem aw_pack:packM 65536 [] []=(awF,0):=by
 have h:validM 65536 [] []=true:=by decide
 rw [packM,h,aw_file]
 rfl
theorem aw_parse:parseB awF=(65536,[],[],false):=by rfl
theorem aw_parse2:parseB (awF++[0])=(65536,[],[],false):=by rfl
theorem aw_open:openB awF=(65536,[],[],0):=by
 unfold openB
 rw [aw_parse]
 have h:validM 65536 [] []=true:=by decide
 simp [h,aw_file]
theorem aw_open2:openB (awF++[0])=(0,[],[],30):=by
 unfold openB
 rw [aw_parse2]
 have h:validM 65536 [] []=true:=by decide
 simp [h,aw_file,awF]
theorem aw_scale:scaleM 10 awC awR 5=(5,[⟨1,3,-1,1⟩],[⟨1,1,0,-2⟩],0):=by rfl
theorem aw_find1:findM 10 awC awR 1=(⟨1,5,-3,1⟩,0):=by rfl
theorem aw_find2:findM 10 awC awR 2=(⟨0,0,0,0⟩,4):=by rfl
theorem aw_rule:ruleM 10 awC awR 1 1=(⟨1,1,0,-4⟩,0):=by rfl
theorem aw_box:boxM 10 awC awR [1,1]=((10,-3,1),0):=by kernel_rfl
theorem aw_valid:validM 10 awC awR=true:=by decide
theorem perm_two {α:Type} {x:α} {l:List α} (h:l.Perm [x,x]):l=[x,x]:=by
 have h1:l=List.replicate 2 x:=List.eq_replicate_iff.mpr ⟨h.length_eq,fun y hy=>by have:=h.mem_iff.mp hy;simpa using this⟩
 exact h1
theorem aw_merge {cs:List S50} {rs:List S45} (hc:cs.Perm (awC++awC)) (hr:rs.Perm (awR++awR)):mergeE 10 awC awR 10 awC awR cs rs=(0,[],[],14):=by
 obtain rfl:=perm_two (x:=(⟨1,5,-3,1⟩:S50)) hc
 obtain rfl:=perm_two (x:=(⟨1,1,0,-4⟩:S45)) hr
 rfl
theorem aw_of {cs:List S50} {rs:List S45} (hc:cs.Perm [⟨2,0,0,0⟩,⟨1,0,0,0⟩]) (hs:RiseC cs) (hr:rs.Perm []):ofE 10 [⟨2,0,0,0⟩,⟨1,0,0,0⟩] [] cs rs=(10,[⟨1,0,0,0⟩,⟨2,0,0,0⟩],[],0):=by
 obtain rfl:rs=[]:=List.Perm.eq_nil hr
 have hl:=hc.length_eq
 match cs,hc,hs,hl with
 | [x,y],hc,hs,_ =>
  have hx:=hc.mem_iff (a:=x)
  have hy:=hc.mem_iff (a:=y)
  have h1:=hc.mem_iff (a:=(⟨1,0,0,0⟩:S50))
  have h2:=hc.mem_iff (a:=(⟨2,0,0,0⟩:S50))
  simp only [List.mem_cons,List.not_mem_nil,or_false,true_or,or_true,true_iff,iff_true] at hx hy h1 h2
  have hne:x≠y:=by
   rintro rfl
   rcases h1 with h1|h1 <;> rcases h2 with h2|h2 <;> (rw [← h1] at h2;cases h2)
  rcases hx with rfl|rfl <;> rcases hy with rfl|rfl
  ·exact absurd rfl hne
  ·unfold RiseC at hs
   have:=(List.pairwise_cons.mp hs).1 _ (List.mem_singleton.mpr rfl)
   exact absurd (show cmpC ⟨1,0,0,0⟩ ⟨2,0,0,0⟩<0 by decide) this
  ·rfl
  ·exact absurd rfl hne
theorem C_none {α:Type} (d:Kd α) (W:World):Kd.C d W none 0 []:=⟨rfl,by decide,fun h=>absurd h (by decide)⟩
theorem C_none_any {α:Type} (d:Kd α) (W:World) (A:Option Addr):Kd.C d W A 0 []:=⟨rfl,by decide,fun h=>absurd h (by decide)⟩
theorem aw_pack_calls (W:World):Calls Tryz.prog 11 #[.agg #[.int .i64 65536,.slice none 0 0,.slice none 0 0]] W fun e w'=>∃ A c,e = .returned (.tuple #[.slice A 22 c,.int .i64 0])∧Kd.R (Kd.int .u8) 5 w' W.heap.size (fun _=>True) (.slice A 22 c) awF∧Below W.heap.size W w':=by
 have h:=Pack_calls 65536 none 0 [] none 0 [] W (C_none _ _) (C_none _ _) (by decide) (by decide)
 rw [aw_pack] at h
 refine h.mono ?_
 rintro e w' ⟨v,rfl,hr,hb⟩
 obtain ⟨A,c,rfl⟩:=Kd.R_slice hr
 exact ⟨A,c,rfl,hr,hb⟩
theorem aw_open_calls (A:Option Addr) (c:Nat) (W:World) (hr:Kd.C (Kd.int .u8) W A 22 awF) (hc:22≤c):Calls Tryz.prog 15 #[.slice A 22 c] W fun e w'=>∃ A1 c1 A2 c2,e = .returned (.tuple #[.agg #[.int .i64 65536,.slice A1 0 c1,.slice A2 0 c2],.int .i64 0])∧Kd.C k50 w' A1 0 []∧Kd.C k45 w' A2 0 []∧Below W.heap.size W w':=by
 have h:=open_calls A c awF W hr hc (by intro x hx;simp only [awF,List.mem_cons,List.not_mem_nil,or_false] at hx;omega) (by decide)
 rw [aw_open] at h
 refine h.mono ?_
 rintro e w' ⟨v1,v2,rfl,h1,h2,hb⟩
 obtain ⟨A1,c1,rfl⟩:=Kd.R_slice h1
 obtain ⟨A2,c2,rfl⟩:=Kd.R_slice h2
 exact ⟨A1,c1,A2,c2,rfl,(Kd.R_reads' h1).2.2,(Kd.R_reads' h2).2.2,hb⟩
theorem aw_open2_calls (A:Option Addr) (c:Nat) (W:World) (hr:Kd.C (Kd.int .u8) W A 23 (awF++[0])) (hc:23≤c):Calls Tryz.prog 15 #[.slice A 23 c] W fun e w'=>∃ A1 c1 A2 c2,e = .returned (.tuple #[.agg #[.int .i64 0,.slice A1 0 c1,.slice A2 0 c2],.int .i64 30])∧Below W.heap.size W w':=by
 have h:=open_calls A c (awF++[0]) W hr hc (by intro x hx;simp only [awF,List.cons_append,List.nil_append,List.mem_cons,List.not_mem_nil,or_false] at hx;omega) (by decide)
 rw [aw_open2] at h
 refine h.mono ?_
 rintro e w' ⟨v1,v2,rfl,h1,h2,hb⟩
 obtain ⟨A1,c1,rfl⟩:=Kd.R_slice h1
 obtain ⟨A2,c2,rfl⟩:=Kd.R_slice h2
 exact ⟨A1,c1,A2,c2,rfl,hb⟩
theorem aw_scale_calls {A1 A2:Option Addr} {c1 c2:Nat} {W:World} (h1:Kd.C k50 W A1 1 awC) (hc1:1≤c1) (h2:Kd.C k45 W A2 1 awR) (hc2:1≤c2):Calls Tryz.prog 24 #[.agg #[.int .i64 10,.slice A1 1 c1,.slice A2 1 c2],.int .i64 5] W fun e w'=>∃ A3 c3 A4 c4,e = .returned (.tuple #[.agg #[.int .i64 5,.slice A3 1 c3,.slice A4 1 c4],.int .i64 0])∧Kd.R k50 50 w' W.heap.size (fun _=>True) (.slice A3 1 c3) [⟨1,3,-1,1⟩]∧Kd.R k45 45 w' W.heap.size (fun _=>True) (.slice A4 1 c4) [⟨1,1,0,-2⟩]∧Below W.heap.size W w':=by
 have h:=scale_calls 10 A1 c1 awC A2 c2 awR 5 W h1 hc1 h2 hc2 (by decide) (by decide)
 rw [aw_scale] at h
 refine h.mono ?_
 rintro e w' ⟨v1,v2,rfl,h1,h2,hb⟩
 obtain ⟨A3,c3,rfl⟩:=Kd.R_slice h1
 obtain ⟨A4,c4,rfl⟩:=Kd.R_slice h2
 exact ⟨A3,c3,A4,c4,rfl,h1,h2,hb⟩
theorem aw_find1_calls {A1 A2:Option Addr} {c1 c2:Nat} {W:World} (h1:Kd.C k50 W A1 1 awC) (h2:Kd.C k45 W A2 1 awR):Calls Tryz.prog 20 #[.agg #[.int .i64 10,.slice A1 1 c1,.slice A2 1 c2],.int .i64 1] W fun e w'=>e = .returned (.tuple #[.agg #[.int .i64 1,.int .i64 5,.int .i64 (-3),.int .i64 1],.int .i64 0])∧Below W.heap.size W w':=by
 have h:=find_calls 10 A1 c1 awC A2 c2 awR 1 W h1 h2 (by decide) (by decide)
 rw [aw_find1] at h
 exact h
theorem aw_find2_calls {A1 A2:Option Addr} {c1 c2:Nat} {W:World} (h1:Kd.C k50 W A1 1 awC) (h2:Kd.C k45 W A2 1 awR):Calls Tryz.prog 20 #[.agg #[.int .i64 10,.slice A1 1 c1,.slice A2 1 c2],.int .i64 2] W fun e w'=>e = .returned (.tuple #[.agg #[.int .i64 0,.int .i64 0,.int .i64 0,.int .i64 0],.int .i64 4])∧Below W.heap.size W w':=by
 have h:=find_calls 10 A1 c1 awC A2 c2 awR 2 W h1 h2 (by decide) (by decide)
 rw [aw_find2] at h
 exact h
theorem aw_rule_calls {A1 A2:Option Addr} {c1 c2:Nat} {W:World} (h1:Kd.C k50 W A1 1 awC) (h2:Kd.C k45 W A2 1 awR):Calls Tryz.prog 22 #[.agg #[.int .i64 10,.slice A1 1 c1,.slice A2 1 c2],.int .i64 1,.int .i64 1] W fun e w'=>e = .returned (.tuple #[.agg #[.int .i64 1,.int .i64 1,.int .i64 0,.int .i64 (-4)],.int .i64 0])∧Below W.heap.size W w':=by
 have h:=rule_calls 10 A1 c1 awC A2 c2 awR 1 1 W h1 h2 (by decide) (by decide)
 rw [aw_rule] at h
 exact h
theorem aw_box_calls {A1 A2 A3:Option Addr} {c1 c2:Nat} {W:World} (h1:Kd.C k50 W A1 1 awC) (h2:Kd.C k45 W A2 1 awR) (h3:Kd.C (Kd.int .i64) W A3 2 [1,1]):Calls Tryz.prog 26 #[.agg #[.int .i64 10,.slice A1 1 c1,.slice A2 1 c2],.slice A3 2 2] W fun e w'=>e = .returned (.tuple #[.agg #[.int .i64 10,.int .i64 (-3),.int .i64 1],.int .i64 0])∧Below W.heap.size W w':=by
 have h:=box_calls 10 A1 c1 awC A2 c2 awR A3 2 [1,1] W h1 h2 h3 (by decide) (by decide) (by decide)
 rw [aw_box] at h
 exact h
theorem aw_merge_calls {A1 A2:Option Addr} {c1 c2:Nat} {W:World} (h1:Kd.C k50 W A1 1 awC) (hc1:1≤c1) (h2:Kd.C k45 W A2 1 awR) (hc2:1≤c2):Calls Tryz.prog 28 #[.agg #[.int .i64 10,.slice A1 1 c1,.slice A2 1 c2],.agg #[.int .i64 10,.slice A1 1 c1,.slice A2 1 c2]] W fun e w'=>∃ A3 c3 A4 c4,e = .returned (.tuple #[.agg #[.int .i64 0,.slice A3 0 c3,.slice A4 0 c4],.int .i64 14])∧Below W.heap.size W w':=by
 have h:=merge_calls 10 A1 c1 awC A2 c2 awR 10 A1 c1 awC A2 c2 awR W h1 hc1 h2 hc2 h1 hc1 h2 hc2 (by decide) (by decide) (by decide) (by decide) ⟨awC++awC,awR++awR,⟨List.Perm.refl _,by unfold RiseC;decide⟩,List.Perm.refl _,by unfold RiseR;decide⟩
 refine h.mono ?_
 rintro e w' ⟨cs,rs,v1,v2,rfl,hc,hr,h1,h2,hb⟩
 rw [aw_merge hc.1 hr.1] at h1 h2 ⊢
 obtain ⟨A3,c3,rfl⟩:=Kd.R_slice h1
 obtain ⟨A4,c4,rfl⟩:=Kd.R_slice h2
 exact ⟨A3,c3,A4,c4,rfl,hb⟩
theorem aw_of_calls {A1:Option Addr} {W:World} (h1:Kd.C kGl W A1 2 [gl1 2,gl1 1]):Calls Tryz.prog 18 #[.int .i64 10,.slice A1 2 2,.slice none 0 0] W fun e w'=>∃ A3 c3 A4 c4,e = .returned (.tuple #[.agg #[.int .i64 10,.slice A3 2 c3,.slice A4 0 c4],.int .i64 0])∧Kd.R k50 50 w' W.heap.size (fun _=>True) (.slice A3 2 c3) [⟨1,0,0,0⟩,⟨2,0,0,0⟩]∧Below W.heap.size W w':=by
 have h:=of_calls 10 A1 2 [gl1 2,gl1 1] none 0 [] W h1 (C_none _ _) (by decide) (by decide) (by decide)
 refine h.mono ?_
 rintro e w' ⟨cs,rs,v1,v2,rfl,hc,hr,h1,h2,hb⟩
 have hq:ofE 10 ([gl1 2,gl1 1].map glC) [] cs rs=(10,[⟨1,0,0,0⟩,⟨2,0,0,0⟩],[],0):=aw_of hc.1 hc.2 hr.1
 rw [hq] at h1 h2 ⊢
 obtain ⟨A3,c3,rfl⟩:=Kd.R_slice h1
 obtain ⟨A4,c4,rfl⟩:=Kd.R_slice h2
 exact ⟨A3,c3,A4,c4,rfl,h1,hb⟩
theorem aw_valid_calls {A1 A2:Option Addr} {c1 c2:Nat} {W:World} (h1:Kd.C k50 W A1 1 awC) (h2:Kd.C k45 W A2 1 awR):Calls Tryz.prog 13 #[.agg #[.int .i64 10,.slice A1 1 c1,.slice A2 1 c2]] W fun e w'=>e = .returned (.bool true)∧Below W.heap.size W w':=by
 have h:=valid_calls 10 A1 c1 awC A2 c2 awR W h1 h2 (by decide) (by decide)
 rw [aw_valid] at h
 exact h
theorem aw_valid0_calls (W:World):Calls Tryz.prog 13 #[.agg #[.int .i64 0,.slice none 0 0,.slice none 0 0]] W fun e w'=>e = .returned (.bool false)∧Below W.heap.size W w':=by
 have h:=valid_calls 0 none 0 [] none 0 [] W (C_none _ _) (C_none _ _) (by decide) (by decide)
 have h0:validM 0 [] []=false:=by decide
 rw [h0] at h
 exact h
theorem aw_same_calls {A1 A2:Option Addr} {c1 c2:Nat} {W:World} (h1:Kd.C k50 W A1 0 []) (h2:Kd.C k45 W A2 0 []):Calls Tryz.prog 17 #[.agg #[.int .i64 65536,.slice A1 0 c1,.slice A2 0 c2],.agg #[.int .i64 65536,.slice none 0 0,.slice none 0 0]] W fun e w'=>e = .returned (.bool true)∧Below W.heap.size W w' :=
 fleuronref27_Same.calls 9 65536 A1 c1 [] A2 c2 [] 65536 none 0 [] none 0 [] true W h1 (Nat.zero_le _) h2 (Nat.zero_le _) (C_none _ _) (Nat.zero_le _) (C_none _ _) (Nat.zero_le _) (by rfl)
def fleuronlaw27_awake.f:Option Bool:=some true
set_option maxHeartbeats 16000000 in
set_option maxRecDepth 100000 in
theorem fleuronlaw27_awake.calls (r:Bool) (w:World) (h:fleuronlaw27_awake.f=some r):Calls Tryz.prog 10 #[] w fun e w'=>e = .returned (.bool r)∧Below w.heap.size w w':=by
 obtain rfl:true=r:=Option.some.inj h
 clear h
 have hu:=Tryz.underlying25
 have hu50:=Tryz.underlying50
 have hu45:=Tryz.underlying45
 have hu47:=Tryz.underlying47
 have hu42:=Tryz.underlying42
 have HB:=aK (Below.refl w.heap.size w)
 go_enter Tryz.func10,Tryz.ntmps10
 go_wp2_with fail
 refine (aw_pack_calls _).mono ?_
 rintro e W1 ⟨Ab,cb,rfl,hr,hb⟩
 have NB_:=aK (below_step HB.out hb)
 clear HB
 have HB:=NB_
 clear NB_
 clear hb
 obtain ⟨gF,capF,heF,-,-,-⟩:=Kd.R_form hr (by decide)
 injection heF with heF he2 he3
 clear he2 he3
 subst heF
 have RF:=aK (Kd.R_lower hr (Nat.le_refl _))
 clear hr
 have HCB:=aK (Kd.R_reads' RF.out).2.1
 go_wp2_with fail
 refine (aw_open_calls (some ⟨gF,0,none⟩) cb W1 (Kd.R_reads' RF.out).2.2 HCB.out).mono ?_
 rintro e W2 ⟨A1,c1,A2,c2,rfl,-,-,hb⟩
 have NB_:=aK (below_step HB.out hb)
 clear HB
 have HB:=NB_
 clear NB_
 have NF:=aK (Kd.R_below RF.out hb)
 clear RF
 have RF:=NF
 clear NF
 clear hb
 have NB_:=aK (below_step HB.out (below_alloc (Below.refl _ _) (.cells #[.int .i64 65536,.slice A1 0 c1,.slice A2 0 c2] 25)))
 clear HB
 have HB:=NB_
 clear NB_
 have NF:=aK (Kd.R_below RF.out (below_alloc (Below.refl _ _) (.cells #[.int .i64 65536,.slice A1 0 c1,.slice A2 0 c2] 25)))
 clear RF
 have RF:=NF
 clear NF
 have h_:=blk_new W2 (.cells #[.int .i64 65536,.slice A1 0 c1,.slice A2 0 c2] 25)
 have Bm:=aK h_
 clear h_
 go_upto_region 3 with (fail)
 generalize hq:W2.heap.size=bm at *
 generalize W2.alloc (.cells #[.int .i64 65536,.slice A1 0 c1,.slice A2 0 c2] 25)=V3 at *
 clear hq
 have Nm:=aK (blk_below Bm.out (below_alloc (Below.refl _ _) (.cells #[.int .i64 1,.int .i64 5,.int .i64 (-3),.int .i64 1] 50)))
 clear Bm
 have Bm:=Nm
 clear Nm
 have NB_:=aK (below_step HB.out (below_alloc (Below.refl _ _) (.cells #[.int .i64 1,.int .i64 5,.int .i64 (-3),.int .i64 1] 50)))
 clear HB
 have HB:=NB_
 clear NB_
 have NF:=aK (Kd.R_below RF.out (below_alloc (Below.refl _ _) (.cells #[.int .i64 1,.int .i64 5,.int .i64 (-3),.int .i64 1] 50)))
 clear RF
 have RF:=NF
 clear NF
 have Bxc:=aK (blk_new V3 (.cells #[.int .i64 1,.int .i64 5,.int .i64 (-3),.int .i64 1] 50))
 have Nm:=aK (blk_below Bm.out (below_alloc (Below.refl _ _) (.cells #[.int .i64 1,.int .i64 1,.int .i64 0,.int .i64 (-4)] 45)))
 clear Bm
 have Bm:=Nm
 clear Nm
 have Nxc:=aK (blk_below Bxc.out (below_alloc (Below.refl _ _) (.cells #[.int .i64 1,.int .i64 1,.int .i64 0,.int .i64 (-4)] 45)))
 clear Bxc
 have Bxc:=Nxc
 clear Nxc
 have NB_:=aK (below_step HB.out (below_alloc (Below.refl _ _) (.cells #[.int .i64 1,.int .i64 1,.int .i64 0,.int .i64 (-4)] 45)))
 clear HB
 have HB:=NB_
 clear NB_
 have NF:=aK (Kd.R_below RF.out (below_alloc (Below.refl _ _) (.cells #[.int .i64 1,.int .i64 1,.int .i64 0,.int .i64 (-4)] 45)))
 clear RF
 have RF:=NF
 clear NF
 have h_:=blk_new (V3.alloc (.cells #[.int .i64 1,.int .i64 5,.int .i64 (-3),.int .i64 1] 50)) (.cells #[.int .i64 1,.int .i64 1,.int .i64 0,.int .i64 (-4)] 45)
 simp only [World.size_alloc] at h_
 have Bxr:=aK h_
 clear h_
 have Nm:=aK (blk_below Bm.out (below_alloc (Below.refl _ _) (.cells #[.int .i64 10,.slice (some ⟨V3.heap.size,0,none⟩) 1 1,.slice (some ⟨V3.heap.size+1,0,none⟩) 1 1] 25)))
 clear Bm
 have Bm:=Nm
 clear Nm
 have Nxc:=aK (blk_below Bxc.out (below_alloc (Below.refl _ _) (.cells #[.int .i64 10,.slice (some ⟨V3.heap.size,0,none⟩) 1 1,.slice (some ⟨V3.heap.size+1,0,none⟩) 1 1] 25)))
 clear Bxc
 have Bxc:=Nxc
 clear Nxc
 have Nxr:=aK (blk_below Bxr.out (below_alloc (Below.refl _ _) (.cells #[.int .i64 10,.slice (some ⟨V3.heap.size,0,none⟩) 1 1,.slice (some ⟨V3.heap.size+1,0,none⟩) 1 1] 25)))
 clear Bxr
 have Bxr:=Nxr
 clear Nxr
 have NB_:=aK (below_step HB.out (below_alloc (Below.refl _ _) (.cells #[.int .i64 10,.slice (some ⟨V3.heap.size,0,none⟩) 1 1,.slice (some ⟨V3.heap.size+1,0,none⟩) 1 1] 25)))
 clear HB
 have HB:=NB_
 clear NB_
 have NF:=aK (Kd.R_below RF.out (below_alloc (Below.refl _ _) (.cells #[.int .i64 10,.slice (some ⟨V3.heap.size,0,none⟩) 1 1,.slice (some ⟨V3.heap.size+1,0,none⟩) 1 1] 25)))
 clear RF
 have RF:=NF
 clear NF
 have h_:=blk_new ((V3.alloc (.cells #[.int .i64 1,.int .i64 5,.int .i64 (-3),.int .i64 1] 50)).alloc (.cells #[.int .i64 1,.int .i64 1,.int .i64 0,.int .i64 (-4)] 45)) (.cells #[.int .i64 10,.slice (some ⟨V3.heap.size,0,none⟩) 1 1,.slice (some ⟨V3.heap.size+1,0,none⟩) 1 1] 25)
 simp only [World.size_alloc] at h_
 have Bx:=aK h_
 clear h_
 go_upto_region 4 with (fail)
 generalize hq1:V3.heap.size+1+1=bx at *
 generalize hq2:V3.heap.size+1=bxr at *
 generalize hq3:V3.heap.size=bxc at *
 generalize ((V3.alloc (.cells #[.int .i64 1,.int .i64 5,.int .i64 (-3),.int .i64 1] 50)).alloc (.cells #[.int .i64 1,.int .i64 1,.int .i64 0,.int .i64 (-4)] 45)).alloc (.cells #[.int .i64 10,.slice (some ⟨bxc,0,none⟩) 1 1,.slice (some ⟨bxr,0,none⟩) 1 1] 25)=V4 at *
 clear hq1 hq2 hq3
 have HB4:=aK HB.out.size
 have px0:=(blk_cell Bx.out 0).trans rfl
 have px1:=(blk_cell Bx.out 1).trans rfl
 have px2:=(blk_cell Bx.out 2).trans rfl
 go_wp2_with fail
 refine (aw_scale_calls (lit1_C (x:=⟨1,5,-3,1⟩) Bxc.out) (Nat.le_refl _) (lit1_R (x:=⟨1,1,0,-4⟩) Bxr.out) (Nat.le_refl _)).mono ?_
 rintro e W5 ⟨A3,c3,A4,c4,rfl,h1,h2,hb⟩
 clear px0
 clear px1
 clear px2
 have Nm:=aK (blk_below Bm.out hb)
 clear Bm
 have Bm:=Nm
 clear Nm
 have Nxc:=aK (blk_below Bxc.out hb)
 clear Bxc
 have Bxc:=Nxc
 clear Nxc
 have Nxr:=aK (blk_below Bxr.out hb)
 clear Bxr
 have Bxr:=Nxr
 clear Nxr
 have Nx:=aK (blk_below Bx.out hb)
 clear Bx
 have Bx:=Nx
 clear Nx
 have NB_:=aK (below_step HB.out hb)
 clear HB
 have HB:=NB_
 clear NB_
 have NF:=aK (Kd.R_below RF.out hb)
 clear RF
 have RF:=NF
 clear NF
 clear hb
 have Rs1:=aK (Kd.R_lower h1 HB4.out)
 have Rs2:=aK (Kd.R_lower h2 HB4.out)
 clear h1 h2
 have Nm:=aK (blk_below Bm.out (below_alloc (Below.refl _ _) (.cells #[.int .i64 5,.slice A3 1 c3,.slice A4 1 c4] 25)))
 clear Bm
 have Bm:=Nm
 clear Nm
 have Nxc:=aK (blk_below Bxc.out (below_alloc (Below.refl _ _) (.cells #[.int .i64 5,.slice A3 1 c3,.slice A4 1 c4] 25)))
 clear Bxc
 have Bxc:=Nxc
 clear Nxc
 have Nxr:=aK (blk_below Bxr.out (below_alloc (Below.refl _ _) (.cells #[.int .i64 5,.slice A3 1 c3,.slice A4 1 c4] 25)))
 clear Bxr
 have Bxr:=Nxr
 clear Nxr
 have Nx:=aK (blk_below Bx.out (below_alloc (Below.refl _ _) (.cells #[.int .i64 5,.slice A3 1 c3,.slice A4 1 c4] 25)))
 clear Bx
 have Bx:=Nx
 clear Nx
 have NB_:=aK (below_step HB.out (below_alloc (Below.refl _ _) (.cells #[.int .i64 5,.slice A3 1 c3,.slice A4 1 c4] 25)))
 clear HB
 have HB:=NB_
 clear NB_
 have NF:=aK (Kd.R_below RF.out (below_alloc (Below.refl _ _) (.cells #[.int .i64 5,.slice A3 1 c3,.slice A4 1 c4] 25)))
 clear RF
 have RF:=NF
 clear NF
 have Ns1:=aK (Kd.R_below Rs1.out (below_alloc (Below.refl _ _) (.cells #[.int .i64 5,.slice A3 1 c3,.slice A4 1 c4] 25)))
 clear Rs1
 have Rs1:=Ns1
 clear Ns1
 have Ns2:=aK (Kd.R_below Rs2.out (below_alloc (Below.refl _ _) (.cells #[.int .i64 5,.slice A3 1 c3,.slice A4 1 c4] 25)))
 clear Rs2
 have Rs2:=Ns2
 clear Ns2
 have h_:=blk_new W5 (.cells #[.int .i64 5,.slice A3 1 c3,.slice A4 1 c4] 25)
 have Bs:=aK h_
 clear h_
 go_upto_region 5 with (fail)
 generalize hq:W5.heap.size=bs at *
 generalize W5.alloc (.cells #[.int .i64 5,.slice A3 1 c3,.slice A4 1 c4] 25)=V5 at *
 clear hq
 have px0:=(blk_cell Bx.out 0).trans rfl
 have px1:=(blk_cell Bx.out 1).trans rfl
 have px2:=(blk_cell Bx.out 2).trans rfl
 go_wp2_with fail
 refine (aw_find1_calls (lit1_C (x:=⟨1,5,-3,1⟩) Bxc.out) (lit1_R (x:=⟨1,1,0,-4⟩) Bxr.out)).mono ?_
 rintro e W6 ⟨rfl,hb⟩
 clear px0
 clear px1
 clear px2
 have Nm:=aK (blk_below Bm.out hb)
 clear Bm
 have Bm:=Nm
 clear Nm
 have Nxc:=aK (blk_below Bxc.out hb)
 clear Bxc
 have Bxc:=Nxc
 clear Nxc
 have Nxr:=aK (blk_below Bxr.out hb)
 clear Bxr
 have Bxr:=Nxr
 clear Nxr
 have Nx:=aK (blk_below Bx.out hb)
 clear Bx
 have Bx:=Nx
 clear Nx
 have Ns:=aK (blk_below Bs.out hb)
 clear Bs
 have Bs:=Ns
 clear Ns
 have NB_:=aK (below_step HB.out hb)
 clear HB
 have HB:=NB_
 clear NB_
 have NF:=aK (Kd.R_below RF.out hb)
 clear RF
 have RF:=NF
 clear NF
 have Ns1:=aK (Kd.R_below Rs1.out hb)
 clear Rs1
 have Rs1:=Ns1
 clear Ns1
 have Ns2:=aK (Kd.R_below Rs2.out hb)
 clear Rs2
 have Rs2:=Ns2
 clear Ns2
 clear hb
 have Nm:=aK (blk_below Bm.out (below_alloc (Below.refl _ _) (.cells #[.int .i64 1,.int .i64 5,.int .i64 (-3),.int .i64 1] 50)))
 clear Bm
 have Bm:=Nm
 clear Nm
 have Nxc:=aK (blk_below Bxc.out (below_alloc (Below.refl _ _) (.cells #[.int .i64 1,.int .i64 5,.int .i64 (-3),.int .i64 1] 50)))
 clear Bxc
 have Bxc:=Nxc
 clear Nxc
 have Nxr:=aK (blk_below Bxr.out (below_alloc (Below.refl _ _) (.cells #[.int .i64 1,.int .i64 5,.int .i64 (-3),.int .i64 1] 50)))
 clear Bxr
 have Bxr:=Nxr
 clear Nxr
 have Nx:=aK (blk_below Bx.out (below_alloc (Below.refl _ _) (.cells #[.int .i64 1,.int .i64 5,.int .i64 (-3),.int .i64 1] 50)))
 clear Bx
 have Bx:=Nx
 clear Nx
 have Ns:=aK (blk_below Bs.out (below_alloc (Below.refl _ _) (.cells #[.int .i64 1,.int .i64 5,.int .i64 (-3),.int .i64 1] 50)))
 clear Bs
 have Bs:=Ns
 clear Ns
 have NB_:=aK (below_step HB.out (below_alloc (Below.refl _ _) (.cells #[.int .i64 1,.int .i64 5,.int .i64 (-3),.int .i64 1] 50)))
 clear HB
 have HB:=NB_
 clear NB_
 have NF:=aK (Kd.R_below RF.out (below_alloc (Below.refl _ _) (.cells #[.int .i64 1,.int .i64 5,.int .i64 (-3),.int .i64 1] 50)))
 clear RF
 have RF:=NF
 clear NF
 have Ns1:=aK (Kd.R_below Rs1.out (below_alloc (Below.refl _ _) (.cells #[.int .i64 1,.int .i64 5,.int .i64 (-3),.int .i64 1] 50)))
 clear Rs1
 have Rs1:=Ns1
 clear Ns1
 have Ns2:=aK (Kd.R_below Rs2.out (below_alloc (Below.refl _ _) (.cells #[.int .i64 1,.int .i64 5,.int .i64 (-3),.int .i64 1] 50)))
 clear Rs2
 have Rs2:=Ns2
 clear Ns2
 have h_:=blk_new W6 (.cells #[.int .i64 1,.int .i64 5,.int .i64 (-3),.int .i64 1] 50)
 have Bc:=aK h_
 clear h_
 go_upto_region 6 with (fail)
 generalize hq:W6.heap.size=bc at *
 generalize W6.alloc (.cells #[.int .i64 1,.int .i64 5,.int .i64 (-3),.int .i64 1] 50)=V6 at *
 clear hq
 have px0:=(blk_cell Bx.out 0).trans rfl
 have px1:=(blk_cell Bx.out 1).trans rfl
 have px2:=(blk_cell Bx.out 2).trans rfl
 go_wp2_with fail
 refine (aw_find2_calls (lit1_C (x:=⟨1,5,-3,1⟩) Bxc.out) (lit1_R (x:=⟨1,1,0,-4⟩) Bxr.out)).mono ?_
 rintro e W7 ⟨rfl,hb⟩
 clear px0
 clear px1
 clear px2
 have Nm:=aK (blk_below Bm.out hb)
 clear Bm
 have Bm:=Nm
 clear Nm
 have Nxc:=aK (blk_below Bxc.out hb)
 clear Bxc
 have Bxc:=Nxc
 clear Nxc
 have Nxr:=aK (blk_below Bxr.out hb)
 clear Bxr
 have Bxr:=Nxr
 clear Nxr
 have Nx:=aK (blk_below Bx.out hb)
 clear Bx
 have Bx:=Nx
 clear Nx
 have Ns:=aK (blk_below Bs.out hb)
 clear Bs
 have Bs:=Ns
 clear Ns
 have Nc:=aK (blk_below Bc.out hb)
 clear Bc
 have Bc:=Nc
 clear Nc
 have NB_:=aK (below_step HB.out hb)
 clear HB
 have HB:=NB_
 clear NB_
 have NF:=aK (Kd.R_below RF.out hb)
 clear RF
 have RF:=NF
 clear NF
 have Ns1:=aK (Kd.R_below Rs1.out hb)
 clear Rs1
 have Rs1:=Ns1
 clear Ns1
 have Ns2:=aK (Kd.R_below Rs2.out hb)
 clear Rs2
 have Rs2:=Ns2
 clear Ns2
 clear hb
 have Nm:=aK (blk_below Bm.out (below_alloc (Below.refl _ _) (.cells #[.int .i64 0,.int .i64 0,.int .i64 0,.int .i64 0] 50)))
 clear Bm
 have Bm:=Nm
 clear Nm
 have Nxc:=aK (blk_below Bxc.out (below_alloc (Below.refl _ _) (.cells #[.int .i64 0,.int .i64 0,.int .i64 0,.int .i64 0] 50)))
 clear Bxc
 have Bxc:=Nxc
 clear Nxc
 have Nxr:=aK (blk_below Bxr.out (below_alloc (Below.refl _ _) (.cells #[.int .i64 0,.int .i64 0,.int .i64 0,.int .i64 0] 50)))
 clear Bxr
 have Bxr:=Nxr
 clear Nxr
 have Nx:=aK (blk_below Bx.out (below_alloc (Below.refl _ _) (.cells #[.int .i64 0,.int .i64 0,.int .i64 0,.int .i64 0] 50)))
 clear Bx
 have Bx:=Nx
 clear Nx
 have Ns:=aK (blk_below Bs.out (below_alloc (Below.refl _ _) (.cells #[.int .i64 0,.int .i64 0,.int .i64 0,.int .i64 0] 50)))
 clear Bs
 have Bs:=Ns
 clear Ns
 have Nc:=aK (blk_below Bc.out (below_alloc (Below.refl _ _) (.cells #[.int .i64 0,.int .i64 0,.int .i64 0,.int .i64 0] 50)))
 clear Bc
 have Bc:=Nc
 clear Nc
 have NB_:=aK (below_step HB.out (below_alloc (Below.refl _ _) (.cells #[.int .i64 0,.int .i64 0,.int .i64 0,.int .i64 0] 50)))
 clear HB
 have HB:=NB_
 clear NB_
 have NF:=aK (Kd.R_below RF.out (below_alloc (Below.refl _ _) (.cells #[.int .i64 0,.int .i64 0,.int .i64 0,.int .i64 0] 50)))
 clear RF
 have RF:=NF
 clear NF
 have Ns1:=aK (Kd.R_below Rs1.out (below_alloc (Below.refl _ _) (.cells #[.int .i64 0,.int .i64 0,.int .i64 0,.int .i64 0] 50)))
 clear Rs1
 have Rs1:=Ns1
 clear Ns1
 have Ns2:=aK (Kd.R_below Rs2.out (below_alloc (Below.refl _ _) (.cells #[.int .i64 0,.int .i64 0,.int .i64 0,.int .i64 0] 50)))
 clear Rs2
 have Rs2:=Ns2
 clear Ns2
 have h_:=blk_new W7 (.cells #[.int .i64 0,.int .i64 0,.int .i64 0,.int .i64 0] 50)
 have Bi:=aK h_
 clear h_
 go_upto_region 7 with (fail)
 generalize hq:W7.heap.size=bi at *
 generalize W7.alloc (.cells #[.int .i64 0,.int .i64 0,.int .i64 0,.int .i64 0] 50)=V7 at *
 clear hq
 clear Bi
 have px0:=(blk_cell Bx.out 0).trans rfl
 have px1:=(blk_cell Bx.out 1).trans rfl
 have px2:=(blk_cell Bx.out 2).trans rfl
 go_wp2_with fail
 refine (aw_rule_calls (lit1_C (x:=⟨1,5,-3,1⟩) Bxc.out) (lit1_R (x:=⟨1,1,0,-4⟩) Bxr.out)).mono ?_
 rintro e W8 ⟨rfl,hb⟩
 clear px0
 clear px1
 clear px2
 have Nm:=aK (blk_below Bm.out hb)
 clear Bm
 have Bm:=Nm
 clear Nm
 have Nxc:=aK (blk_below Bxc.out hb)
 clear Bxc
 have Bxc:=Nxc
 clear Nxc
 have Nxr:=aK (blk_below Bxr.out hb)
 clear Bxr
 have Bxr:=Nxr
 clear Nxr
 have Nx:=aK (blk_below Bx.out hb)
 clear Bx
 have Bx:=Nx
 clear Nx
 have Ns:=aK (blk_below Bs.out hb)
 clear Bs
 have Bs:=Ns
 clear Ns
 have Nc:=aK (blk_below Bc.out hb)
 clear Bc
 have Bc:=Nc
 clear Nc
 have NB_:=aK (below_step HB.out hb)
 clear HB
 have HB:=NB_
 clear NB_
 have NF:=aK (Kd.R_below RF.out hb)
 clear RF
 have RF:=NF
 clear NF
 have Ns1:=aK (Kd.R_below Rs1.out hb)
 clear Rs1
 have Rs1:=Ns1
 clear Ns1
 have Ns2:=aK (Kd.R_below Rs2.out hb)
 clear Rs2
 have Rs2:=Ns2
 clear Ns2
 clear hb
 have Nm:=aK (blk_below Bm.out (below_alloc (Below.refl _ _) (.cells #[.int .i64 1,.int .i64 1,.int .i64 0,.int .i64 (-4)] 45)))
 clear Bm
 have Bm:=Nm
 clear Nm
 have Nxc:=aK (blk_below Bxc.out (below_alloc (Below.refl _ _) (.cells #[.int .i64 1,.int .i64 1,.int .i64 0,.int .i64 (-4)] 45)))
 clear Bxc
 have Bxc:=Nxc
 clear Nxc
 have Nxr:=aK (blk_below Bxr.out (below_alloc (Below.refl _ _) (.cells #[.int .i64 1,.int .i64 1,.int .i64 0,.int .i64 (-4)] 45)))
 clear Bxr
 have Bxr:=Nxr
 clear Nxr
 have Nx:=aK (blk_below Bx.out (below_alloc (Below.refl _ _) (.cells #[.int .i64 1,.int .i64 1,.int .i64 0,.int .i64 (-4)] 45)))
 clear Bx
 have Bx:=Nx
 clear Nx
 have Ns:=aK (blk_below Bs.out (below_alloc (Below.refl _ _) (.cells #[.int .i64 1,.int .i64 1,.int .i64 0,.int .i64 (-4)] 45)))
 clear Bs
 have Bs:=Ns
 clear Ns
 have Nc:=aK (blk_below Bc.out (below_alloc (Below.refl _ _) (.cells #[.int .i64 1,.int .i64 1,.int .i64 0,.int .i64 (-4)] 45)))
 clear Bc
 have Bc:=Nc
 clear Nc
 have NB_:=aK (below_step HB.out (below_alloc (Below.refl _ _) (.cells #[.int .i64 1,.int .i64 1,.int .i64 0,.int .i64 (-4)] 45)))
 clear HB
 have HB:=NB_
 clear NB_
 have NF:=aK (Kd.R_below RF.out (below_alloc (Below.refl _ _) (.cells #[.int .i64 1,.int .i64 1,.int .i64 0,.int .i64 (-4)] 45)))
 clear RF
 have RF:=NF
 clear NF
 have Ns1:=aK (Kd.R_below Rs1.out (below_alloc (Below.refl _ _) (.cells #[.int .i64 1,.int .i64 1,.int .i64 0,.int .i64 (-4)] 45)))
 clear Rs1
 have Rs1:=Ns1
 clear Ns1
 have Ns2:=aK (Kd.R_below Rs2.out (below_alloc (Below.refl _ _) (.cells #[.int .i64 1,.int .i64 1,.int .i64 0,.int .i64 (-4)] 45)))
 clear Rs2
 have Rs2:=Ns2
 clear Ns2
 have h_:=blk_new W8 (.cells #[.int .i64 1,.int .i64 1,.int .i64 0,.int .i64 (-4)] 45)
 have Br:=aK h_
 clear h_
 go_upto_region 8 with (fail)
 generalize hq:W8.heap.size=br at *
 generalize W8.alloc (.cells #[.int .i64 1,.int .i64 1,.int .i64 0,.int .i64 (-4)] 45)=V8 at *
 clear hq
 have px0:=(blk_cell Bx.out 0).trans rfl
 have px1:=(blk_cell Bx.out 1).trans rfl
 have px2:=(blk_cell Bx.out 2).trans rfl
 have Hk0:=aK (lit_C V8 3 [1,1] (by decide))
 have Nm:=aK (blk_below Bm.out (below_alloc (Below.refl _ _) (.cells #[.int .i64 1,.int .i64 1] 3)))
 clear Bm
 have Bm:=Nm
 clear Nm
 have Nxc:=aK (blk_below Bxc.out (below_alloc (Below.refl _ _) (.cells #[.int .i64 1,.int .i64 1] 3)))
 clear Bxc
 have Bxc:=Nxc
 clear Nxc
 have Nxr:=aK (blk_below Bxr.out (below_alloc (Below.refl _ _) (.cells #[.int .i64 1,.int .i64 1] 3)))
 clear Bxr
 have Bxr:=Nxr
 clear Nxr
 have Nx:=aK (blk_below Bx.out (below_alloc (Below.refl _ _) (.cells #[.int .i64 1,.int .i64 1] 3)))
 clear Bx
 have Bx:=Nx
 clear Nx
 have Ns:=aK (blk_below Bs.out (below_alloc (Below.refl _ _) (.cells #[.int .i64 1,.int .i64 1] 3)))
 clear Bs
 have Bs:=Ns
 clear Ns
 have Nc:=aK (blk_below Bc.out (below_alloc (Below.refl _ _) (.cells #[.int .i64 1,.int .i64 1] 3)))
 clear Bc
 have Bc:=Nc
 clear Nc
 have Nr:=aK (blk_below Br.out (below_alloc (Below.refl _ _) (.cells #[.int .i64 1,.int .i64 1] 3)))
 clear Br
 have Br:=Nr
 clear Nr
 have NB_:=aK (below_step HB.out (below_alloc (Below.refl _ _) (.cells #[.int .i64 1,.int .i64 1] 3)))
 clear HB
 have HB:=NB_
 clear NB_
 have NF:=aK (Kd.R_below RF.out (below_alloc (Below.refl _ _) (.cells #[.int .i64 1,.int .i64 1] 3)))
 clear RF
 have RF:=NF
 clear NF
 have Ns1:=aK (Kd.R_below Rs1.out (below_alloc (Below.refl _ _) (.cells #[.int .i64 1,.int .i64 1] 3)))
 clear Rs1
 have Rs1:=Ns1
 clear Ns1
 have Ns2:=aK (Kd.R_below Rs2.out (below_alloc (Below.refl _ _) (.cells #[.int .i64 1,.int .i64 1] 3)))
 clear Rs2
 have Rs2:=Ns2
 clear Ns2
 have Hk:Aside0 (Kd.C (Kd.int .i64) (V8.alloc (.cells #[.int .i64 1,.int .i64 1] 3)) (some ⟨V8.heap.size,0,none⟩) 2 [1,1]):=⟨Hk0.out⟩
 clear Hk0
 go_wp2_with fail
 refine (aw_box_calls (lit1_C (x:=⟨1,5,-3,1⟩) Bxc.out) (lit1_R (x:=⟨1,1,0,-4⟩) Bxr.out) Hk.out).mono ?_
 rintro e W9 ⟨rfl,hb⟩
 clear px0
 clear px1
 clear px2
 have Nk:=aK (Kd.C_below Hk.out hb)
 clear Hk
 have Hk:=Nk
 clear Nk
 have Nm:=aK (blk_below Bm.out hb)
 clear Bm
 have Bm:=Nm
 clear Nm
 have Nxc:=aK (blk_below Bxc.out hb)
 clear Bxc
 have Bxc:=Nxc
 clear Nxc
 have Nxr:=aK (blk_below Bxr.out hb)
 clear Bxr
 have Bxr:=Nxr
 clear Nxr
 have Nx:=aK (blk_below Bx.out hb)
 clear Bx
 have Bx:=Nx
 clear Nx
 have Ns:=aK (blk_below Bs.out hb)
 clear Bs
 have Bs:=Ns
 clear Ns
 have Nc:=aK (blk_below Bc.out hb)
 clear Bc
 have Bc:=Nc
 clear Nc
 have Nr:=aK (blk_below Br.out hb)
 clear Br
 have Br:=Nr
 clear Nr
 have NB_:=aK (below_step HB.out hb)
 clear HB
 have HB:=NB_
 clear NB_
 have NF:=aK (Kd.R_below RF.out hb)
 clear RF
 have RF:=NF
 clear NF
 have Ns1:=aK (Kd.R_below Rs1.out hb)
 clear Rs1
 have Rs1:=Ns1
 clear Ns1
 have Ns2:=aK (Kd.R_below Rs2.out hb)
 clear Rs2
 have Rs2:=Ns2
 clear Ns2
 clear hb
 clear Hk
 have Nm:=aK (blk_below Bm.out (below_alloc (Below.refl _ _) (.cells #[.int .i64 10,.int .i64 (-3),.int .i64 1] 47)))
 clear Bm
 have Bm:=Nm
 clear Nm
 have Nxc:=aK (blk_below Bxc.out (below_alloc (Below.refl _ _) (.cells #[.int .i64 10,.int .i64 (-3),.int .i64 1] 47)))
 clear Bxc
 have Bxc:=Nxc
 clear Nxc
 have Nxr:=aK (blk_below Bxr.out (below_alloc (Below.refl _ _) (.cells #[.int .i64 10,.int .i64 (-3),.int .i64 1] 47)))
 clear Bxr
 have Bxr:=Nxr
 clear Nxr
 have Nx:=aK (blk_below Bx.out (below_alloc (Below.refl _ _) (.cells #[.int .i64 10,.int .i64 (-3),.int .i64 1] 47)))
 clear Bx
 have Bx:=Nx
 clear Nx
 have Ns:=aK (blk_below Bs.out (below_alloc (Below.refl _ _) (.cells #[.int .i64 10,.int .i64 (-3),.int .i64 1] 47)))
 clear Bs
 have Bs:=Ns
 clear Ns
 have Nc:=aK (blk_below Bc.out (below_alloc (Below.refl _ _) (.cells #[.int .i64 10,.int .i64 (-3),.int .i64 1] 47)))
 clear Bc
 have Bc:=Nc
 clear Nc
 have Nr:=aK (blk_below Br.out (below_alloc (Below.refl _ _) (.cells #[.int .i64 10,.int .i64 (-3),.int .i64 1] 47)))
 clear Br
 have Br:=Nr
 clear Nr
 have NB_:=aK (below_step HB.out (below_alloc (Below.refl _ _) (.cells #[.int .i64 10,.int .i64 (-3),.int .i64 1] 47)))
 clear HB
 have HB:=NB_
 clear NB_
 have NF:=aK (Kd.R_below RF.out (below_alloc (Below.refl _ _) (.cells #[.int .i64 10,.int .i64 (-3),.int .i64 1] 47)))
 clear RF
 have RF:=NF
 clear NF
 have Ns1:=aK (Kd.R_below Rs1.out (below_alloc (Below.refl _ _) (.cells #[.int .i64 10,.int .i64 (-3),.int .i64 1] 47)))
 clear Rs1
 have Rs1:=Ns1
 clear Ns1
 have Ns2:=aK (Kd.R_below Rs2.out (below_alloc (Below.refl _ _) (.cells #[.int .i64 10,.int .i64 (-3),.int .i64 1] 47)))
 clear Rs2
 have Rs2:=Ns2
 clear Ns2
 have h_:=blk_new W9 (.cells #[.int .i64 10,.int .i64 (-3),.int .i64 1] 47)
 have Bo:=aK h_
 clear h_
 go_upto_region 9 with (fail)
 generalize hq:W9.heap.size=bo at *
 generalize W9.alloc (.cells #[.int .i64 10,.int .i64 (-3),.int .i64 1] 47)=V9 at *
 clear hq
 have px0:=(blk_cell Bx.out 0).trans rfl
 have px1:=(blk_cell Bx.out 1).trans rfl
 have px2:=(blk_cell Bx.out 2).trans rfl
 go_wp2_with fail
 refine (aw_merge_calls (lit1_C (x:=⟨1,5,-3,1⟩) Bxc.out) (Nat.le_refl _) (lit1_R (x:=⟨1,1,0,-4⟩) Bxr.out) (Nat.le_refl _)).mono ?_
 rintro e W10 ⟨A5,c5,A6,c6,rfl,hb⟩
 clear px0
 clear px1
 clear px2
 have Nm:=aK (blk_below Bm.out hb)
 clear Bm
 have Bm:=Nm
 clear Nm
 have Nxc:=aK (blk_below Bxc.out hb)
 clear Bxc
 have Bxc:=Nxc
 clear Nxc
 have Nxr:=aK (blk_below Bxr.out hb)
 clear Bxr
 have Bxr:=Nxr
 clear Nxr
 have Nx:=aK (blk_below Bx.out hb)
 clear Bx
 have Bx:=Nx
 clear Nx
 have Ns:=aK (blk_below Bs.out hb)
 clear Bs
 have Bs:=Ns
 clear Ns
 have Nc:=aK (blk_below Bc.out hb)
 clear Bc
 have Bc:=Nc
 clear Nc
 have Nr:=aK (blk_below Br.out hb)
 clear Br
 have Br:=Nr
 clear Nr
 have No:=aK (blk_below Bo.out hb)
 clear Bo
 have Bo:=No
 clear No
 have NB_:=aK (below_step HB.out hb)
 clear HB
 have HB:=NB_
 clear NB_
 have NF:=aK (Kd.R_below RF.out hb)
 clear RF
 have RF:=NF
 clear NF
 have Ns1:=aK (Kd.R_below Rs1.out hb)
 clear Rs1
 have Rs1:=Ns1
 clear Ns1
 have Ns2:=aK (Kd.R_below Rs2.out hb)
 clear Rs2
 have Rs2:=Ns2
 clear Ns2
 clear hb
 have Nm:=aK (blk_below Bm.out (below_alloc (Below.refl _ _) (.cells #[.int .i64 0,.slice A5 0 c5,.slice A6 0 c6] 25)))
 clear Bm
 have Bm:=Nm
 clear Nm
 have Nxc:=aK (blk_below Bxc.out (below_alloc (Below.refl _ _) (.cells #[.int .i64 0,.slice A5 0 c5,.slice A6 0 c6] 25)))
 clear Bxc
 have Bxc:=Nxc
 clear Nxc
 have Nxr:=aK (blk_below Bxr.out (below_alloc (Below.refl _ _) (.cells #[.int .i64 0,.slice A5 0 c5,.slice A6 0 c6] 25)))
 clear Bxr
 have Bxr:=Nxr
 clear Nxr
 have Nx:=aK (blk_below Bx.out (below_alloc (Below.refl _ _) (.cells #[.int .i64 0,.slice A5 0 c5,.slice A6 0 c6] 25)))
 clear Bx
 have Bx:=Nx
 clear Nx
 have Ns:=aK (blk_below Bs.out (below_alloc (Below.refl _ _) (.cells #[.int .i64 0,.slice A5 0 c5,.slice A6 0 c6] 25)))
 clear Bs
 have Bs:=Ns
 clear Ns
 have Nc:=aK (blk_below Bc.out (below_alloc (Below.refl _ _) (.cells #[.int .i64 0,.slice A5 0 c5,.slice A6 0 c6] 25)))
 clear Bc
 have Bc:=Nc
 clear Nc
 have Nr:=aK (blk_below Br.out (below_alloc (Below.refl _ _) (.cells #[.int .i64 0,.slice A5 0 c5,.slice A6 0 c6] 25)))
 clear Br
 have Br:=Nr
 clear Nr
 have No:=aK (blk_below Bo.out (below_alloc (Below.refl _ _) (.cells #[.int .i64 0,.slice A5 0 c5,.slice A6 0 c6] 25)))
 clear Bo
 have Bo:=No
 clear No
 have NB_:=aK (below_step HB.out (below_alloc (Below.refl _ _) (.cells #[.int .i64 0,.slice A5 0 c5,.slice A6 0 c6] 25)))
 clear HB
 have HB:=NB_
 clear NB_
 have NF:=aK (Kd.R_below RF.out (below_alloc (Below.refl _ _) (.cells #[.int .i64 0,.slice A5 0 c5,.slice A6 0 c6] 25)))
 clear RF
 have RF:=NF
 clear NF
 have Ns1:=aK (Kd.R_below Rs1.out (below_alloc (Below.refl _ _) (.cells #[.int .i64 0,.slice A5 0 c5,.slice A6 0 c6] 25)))
 clear Rs1
 have Rs1:=Ns1
 clear Ns1
 have Ns2:=aK (Kd.R_below Rs2.out (below_alloc (Below.refl _ _) (.cells #[.int .i64 0,.slice A5 0 c5,.slice A6 0 c6] 25)))
 clear Rs2
 have Rs2:=Ns2
 clear Ns2
 have h_:=blk_new W10 (.cells #[.int .i64 0,.slice A5 0 c5,.slice A6 0 c6] 25)
 have Bl:=aK h_
 clear h_
 go_upto_region 10 with (fail)
 generalize hq:W10.heap.size=bl at *
 generalize W10.alloc (.cells #[.int .i64 0,.slice A5 0 c5,.slice A6 0 c6] 25)=V10 at *
 clear hq
 clear Bl
 have Nm:=aK (blk_below Bm.out (below_alloc (Below.refl _ _) (.cells #[.int .i64 2,.int .i64 0,.int .i64 0,.int .i64 0,.slice none 0 0,.int .i64 1,.int .i64 0,.int .i64 0,.int .i64 0,.slice none 0 0] 42)))
 clear Bm
 have Bm:=Nm
 clear Nm
 have Nxc:=aK (blk_below Bxc.out (below_alloc (Below.refl _ _) (.cells #[.int .i64 2,.int .i64 0,.int .i64 0,.int .i64 0,.slice none 0 0,.int .i64 1,.int .i64 0,.int .i64 0,.int .i64 0,.slice none 0 0] 42)))
 clear Bxc
 have Bxc:=Nxc
 clear Nxc
 have Nxr:=aK (blk_below Bxr.out (below_alloc (Below.refl _ _) (.cells #[.int .i64 2,.int .i64 0,.int .i64 0,.int .i64 0,.slice none 0 0,.int .i64 1,.int .i64 0,.int .i64 0,.int .i64 0,.slice none 0 0] 42)))
 clear Bxr
 have Bxr:=Nxr
 clear Nxr
 have Nx:=aK (blk_below Bx.out (below_alloc (Below.refl _ _) (.cells #[.int .i64 2,.int .i64 0,.int .i64 0,.int .i64 0,.slice none 0 0,.int .i64 1,.int .i64 0,.int .i64 0,.int .i64 0,.slice none 0 0] 42)))
 clear Bx
 have Bx:=Nx
 clear Nx
 have Ns:=aK (blk_below Bs.out (below_alloc (Below.refl _ _) (.cells #[.int .i64 2,.int .i64 0,.int .i64 0,.int .i64 0,.slice none 0 0,.int .i64 1,.int .i64 0,.int .i64 0,.int .i64 0,.slice none 0 0] 42)))
 clear Bs
 have Bs:=Ns
 clear Ns
 have Nc:=aK (blk_below Bc.out (below_alloc (Below.refl _ _) (.cells #[.int .i64 2,.int .i64 0,.int .i64 0,.int .i64 0,.slice none 0 0,.int .i64 1,.int .i64 0,.int .i64 0,.int .i64 0,.slice none 0 0] 42)))
 clear Bc
 have Bc:=Nc
 clear Nc
 have Nr:=aK (blk_below Br.out (below_alloc (Below.refl _ _) (.cells #[.int .i64 2,.int .i64 0,.int .i64 0,.int .i64 0,.slice none 0 0,.int .i64 1,.int .i64 0,.int .i64 0,.int .i64 0,.slice none 0 0] 42)))
 clear Br
 have Br:=Nr
 clear Nr
 have No:=aK (blk_below Bo.out (below_alloc (Below.refl _ _) (.cells #[.int .i64 2,.int .i64 0,.int .i64 0,.int .i64 0,.slice none 0 0,.int .i64 1,.int .i64 0,.int .i64 0,.int .i64 0,.slice none 0 0] 42)))
 clear Bo
 have Bo:=No
 clear No
 have NB_:=aK (below_step HB.out (below_alloc (Below.refl _ _) (.cells #[.int .i64 2,.int .i64 0,.int .i64 0,.int .i64 0,.slice none 0 0,.int .i64 1,.int .i64 0,.int .i64 0,.int .i64 0,.slice none 0 0] 42)))
 clear HB
 have HB:=NB_
 clear NB_
 have NF:=aK (Kd.R_below RF.out (below_alloc (Below.refl _ _) (.cells #[.int .i64 2,.int .i64 0,.int .i64 0,.int .i64 0,.slice none 0 0,.int .i64 1,.int .i64 0,.int .i64 0,.int .i64 0,.slice none 0 0] 42)))
 clear RF
 have RF:=NF
 clear NF
 have Ns1:=aK (Kd.R_below Rs1.out (below_alloc (Below.refl _ _) (.cells #[.int .i64 2,.int .i64 0,.int .i64 0,.int .i64 0,.slice none 0 0,.int .i64 1,.int .i64 0,.int .i64 0,.int .i64 0,.slice none 0 0] 42)))
 clear Rs1
 have Rs1:=Ns1
 clear Ns1
 have Ns2:=aK (Kd.R_below Rs2.out (below_alloc (Below.refl _ _) (.cells #[.int .i64 2,.int .i64 0,.int .i64 0,.int .i64 0,.slice none 0 0,.int .i64 1,.int .i64 0,.int .i64 0,.int .i64 0,.slice none 0 0] 42)))
 clear Rs2
 have Rs2:=Ns2
 clear Ns2
 have Hg:=aK (lit2_G (m:=2) (n:=1) (blk_new V10 (.cells #[.int .i64 2,.int .i64 0,.int .i64 0,.int .i64 0,.slice none 0 0,.int .i64 1,.int .i64 0,.int .i64 0,.int .i64 0,.slice none 0 0] 42)))
 have HB5:=aK HB.out.size
 go_wp2_with fail
 refine (aw_of_calls Hg.out).mono ?_
 rintro e W11 ⟨A7,c7,A8,c8,rfl,h1,hb⟩
 have Ng:=aK (Kd.C_below Hg.out hb)
 clear Hg
 have Hg:=Ng
 clear Ng
 have Nm:=aK (blk_below Bm.out hb)
 clear Bm
 have Bm:=Nm
 clear Nm
 have Nxc:=aK (blk_below Bxc.out hb)
 clear Bxc
 have Bxc:=Nxc
 clear Nxc
 have Nxr:=aK (blk_below Bxr.out hb)
 clear Bxr
 have Bxr:=Nxr
 clear Nxr
 have Nx:=aK (blk_below Bx.out hb)
 clear Bx
 have Bx:=Nx
 clear Nx
 have Ns:=aK (blk_below Bs.out hb)
 clear Bs
 have Bs:=Ns
 clear Ns
 have Nc:=aK (blk_below Bc.out hb)
 clear Bc
 have Bc:=Nc
 clear Nc
 have Nr:=aK (blk_below Br.out hb)
 clear Br
 have Br:=Nr
 clear Nr
 have No:=aK (blk_below Bo.out hb)
 clear Bo
 have Bo:=No
 clear No
 have NB_:=aK (below_step HB.out hb)
 clear HB
 have HB:=NB_
 clear NB_
 have NF:=aK (Kd.R_below RF.out hb)
 clear RF
 have RF:=NF
 clear NF
 have Ns1:=aK (Kd.R_below Rs1.out hb)
 clear Rs1
 have Rs1:=Ns1
 clear Ns1
 have Ns2:=aK (Kd.R_below Rs2.out hb)
 clear Rs2
 have Rs2:=Ns2
 clear Ns2
 clear hb
 clear Hg
 have Rn1:=aK (Kd.R_lower h1 HB5.out)
 clear h1
 have Nm:=aK (blk_below Bm.out (below_alloc (Below.refl _ _) (.cells #[.int .i64 10,.slice A7 2 c7,.slice A8 0 c8] 25)))
 clear Bm
 have Bm:=Nm
 clear Nm
 have Nxc:=aK (blk_below Bxc.out (below_alloc (Below.refl _ _) (.cells #[.int .i64 10,.slice A7 2 c7,.slice A8 0 c8] 25)))
 clear Bxc
 have Bxc:=Nxc
 clear Nxc
 have Nxr:=aK (blk_below Bxr.out (below_alloc (Below.refl _ _) (.cells #[.int .i64 10,.slice A7 2 c7,.slice A8 0 c8] 25)))
 clear Bxr
 have Bxr:=Nxr
 clear Nxr
 have Nx:=aK (blk_below Bx.out (below_alloc (Below.refl _ _) (.cells #[.int .i64 10,.slice A7 2 c7,.slice A8 0 c8] 25)))
 clear Bx
 have Bx:=Nx
 clear Nx
 have Ns:=aK (blk_below Bs.out (below_alloc (Below.refl _ _) (.cells #[.int .i64 10,.slice A7 2 c7,.slice A8 0 c8] 25)))
 clear Bs
 have Bs:=Ns
 clear Ns
 have Nc:=aK (blk_below Bc.out (below_alloc (Below.refl _ _) (.cells #[.int .i64 10,.slice A7 2 c7,.slice A8 0 c8] 25)))
 clear Bc
 have Bc:=Nc
 clear Nc
 have Nr:=aK (blk_below Br.out (below_alloc (Below.refl _ _) (.cells #[.int .i64 10,.slice A7 2 c7,.slice A8 0 c8] 25)))
 clear Br
 have Br:=Nr
 clear Nr
 have No:=aK (blk_below Bo.out (below_alloc (Below.refl _ _) (.cells #[.int .i64 10,.slice A7 2 c7,.slice A8 0 c8] 25)))
 clear Bo
 have Bo:=No
 clear No
 have NB_:=aK (below_step HB.out (below_alloc (Below.refl _ _) (.cells #[.int .i64 10,.slice A7 2 c7,.slice A8 0 c8] 25)))
 clear HB
 have HB:=NB_
 clear NB_
 have NF:=aK (Kd.R_below RF.out (below_alloc (Below.refl _ _) (.cells #[.int .i64 10,.slice A7 2 c7,.slice A8 0 c8] 25)))
 clear RF
 have RF:=NF
 clear NF
 have Ns1:=aK (Kd.R_below Rs1.out (below_alloc (Below.refl _ _) (.cells #[.int .i64 10,.slice A7 2 c7,.slice A8 0 c8] 25)))
 clear Rs1
 have Rs1:=Ns1
 clear Ns1
 have Ns2:=aK (Kd.R_below Rs2.out (below_alloc (Below.refl _ _) (.cells #[.int .i64 10,.slice A7 2 c7,.slice A8 0 c8] 25)))
 clear Rs2
 have Rs2:=Ns2
 clear Ns2
 have Nn1:=aK (Kd.R_below Rn1.out (below_alloc (Below.refl _ _) (.cells #[.int .i64 10,.slice A7 2 c7,.slice A8 0 c8] 25)))
 clear Rn1
 have Rn1:=Nn1
 clear Nn1
 have h_:=blk_new W11 (.cells #[.int .i64 10,.slice A7 2 c7,.slice A8 0 c8] 25)
 have Bn:=aK h_
 clear h_
 go_upto_region 11 with (fail)
 generalize hq:W11.heap.size=bn at *
 generalize W11.alloc (.cells #[.int .i64 10,.slice A7 2 c7,.slice A8 0 c8] 25)=V11 at *
 clear hq
 obtain ⟨g_,cap_,he_,-,-,cells_,hgF⟩:=Kd.R_form RF.out (by decide)
 injection he_ with he_ he2 he3
 clear he2 he3
 injection he_ with he_
 injection he_ with he_
 subst he_
 have HGF:=aK hgF
 clear hgF
 go_wp2_with ((with_reducible refine gate_builtin (b:=.append) (xs:=#[.tmp 77,.tmp 78]) rfl ?_);at_builtin;refine append_keeps (w0:=w) w.heap.size rfl (.tmp 77) (.tmp 78) 28 5 rfl Tryz.underlying28 info5 (.slice (some ⟨gF,0,none⟩) 22 cb) awF 0 rfl rfl RF.out HB.out HB.out.size (by decide) ?_;intro v12 W12 hn ho hb hg;obtain ⟨A9,c9,hv⟩:=Kd.R_slice hn;replace hv:v12 = .slice A9 23 c9:=hv;subst hv;have NF:=aK ho;have RA:=aK hn;have NB_:=aK hb;have HG:=aK hg;clear hn ho hb hg)
 have hne : ∀ {b:Nat} {cs:Array Value} {t:TypeId},V11.heap[b]?=some (.cells cs t (0,0))→t≠5→W12.heap[b]?=some (.cells cs t (0,0)):=fun h ht=>blk_grown h HG.out (Kd.R_ne RF.out h ht.symm)
 have Nm:=aK (hne Bm.out (by decide))
 clear Bm
 have Bm:=Nm
 clear Nm
 have Nxc:=aK (hne Bxc.out (by decide))
 clear Bxc
 have Bxc:=Nxc
 clear Nxc
 have Nxr:=aK (hne Bxr.out (by decide))
 clear Bxr
 have Bxr:=Nxr
 clear Nxr
 have Nx:=aK (hne Bx.out (by decide))
 clear Bx
 have Bx:=Nx
 clear Nx
 have Ns:=aK (hne Bs.out (by decide))
 clear Bs
 have Bs:=Ns
 clear Ns
 have Nc:=aK (hne Bc.out (by decide))
 clear Bc
 have Bc:=Nc
 clear Nc
 have Nr:=aK (hne Br.out (by decide))
 clear Br
 have Br:=Nr
 clear Nr
 have No:=aK (hne Bo.out (by decide))
 clear Bo
 have Bo:=No
 clear No
 have Nn:=aK (hne Bn.out (by decide))
 clear Bn
 have Bn:=Nn
 clear Nn
 have Ns1:=aK (Kd.R_mono (Kd.R_grown (Kd.R_types Rs1.out HGF.out (fun q hq=>by rw [opq50 q hq];decide)) HG.out (fun k hk he=>hk.2 (by injection he))) (fun _ _=>trivial))
 clear Rs1
 have Rs1:=Ns1
 clear Ns1
 have Ns2:=aK (Kd.R_mono (Kd.R_grown (Kd.R_types Rs2.out HGF.out (fun q hq=>by rw [opq45 q hq];decide)) HG.out (fun k hk he=>hk.2 (by injection he))) (fun _ _=>trivial))
 clear Rs2
 have Rs2:=Ns2
 clear Ns2
 have Nn1:=aK (Kd.R_mono (Kd.R_grown (Kd.R_types Rn1.out HGF.out (fun q hq=>by rw [opq50 q hq];decide)) HG.out (fun k hk he=>hk.2 (by injection he))) (fun _ _=>trivial))
 clear Rn1
 have Rn1:=Nn1
 clear Nn1
 clear hne RF HB
 have RF:=NF
 have HB:=NB_
 clear NF NB_ HG HGF
 go_wp2_with fail
 refine (aw_open2_calls A9 c9 W12 (Kd.R_reads' RA.out).2.2 (Kd.R_reads' RA.out).2.1).mono ?_
 rintro e W13 ⟨A10,c10,A11,c11,rfl,hb⟩
 have Nm:=aK (blk_below Bm.out hb)
 clear Bm
 have Bm:=Nm
 clear Nm
 have Nxc:=aK (blk_below Bxc.out hb)
 clear Bxc
 have Bxc:=Nxc
 clear Nxc
 have Nxr:=aK (blk_below Bxr.out hb)
 clear Bxr
 have Bxr:=Nxr
 clear Nxr
 have Nx:=aK (blk_below Bx.out hb)
 clear Bx
 have Bx:=Nx
 clear Nx
 have Ns:=aK (blk_below Bs.out hb)
 clear Bs
 have Bs:=Ns
 clear Ns
 have Nc:=aK (blk_below Bc.out hb)
 clear Bc
 have Bc:=Nc
 clear Nc
 have Nr:=aK (blk_below Br.out hb)
 clear Br
 have Br:=Nr
 clear Nr
 have No:=aK (blk_below Bo.out hb)
 clear Bo
 have Bo:=No
 clear No
 have Nn:=aK (blk_below Bn.out hb)
 clear Bn
 have Bn:=Nn
 clear Nn
 have NB_:=aK (below_step HB.out hb)
 clear HB
 have HB:=NB_
 clear NB_
 have NF:=aK (Kd.R_below RF.out hb)
 clear RF
 have RF:=NF
 clear NF
 have Ns1:=aK (Kd.R_below Rs1.out hb)
 clear Rs1
 have Rs1:=Ns1
 clear Ns1
 have Ns2:=aK (Kd.R_below Rs2.out hb)
 clear Rs2
 have Rs2:=Ns2
 clear Ns2
 have Nn1:=aK (Kd.R_below Rn1.out hb)
 clear Rn1
 have Rn1:=Nn1
 clear Nn1
 have NA:=aK (Kd.R_below RA.out hb)
 clear RA
 have RA:=NA
 clear NA
 clear hb
 have Nm:=aK (blk_below Bm.out (below_alloc (Below.refl _ _) (.cells #[.int .i64 0,.slice A10 0 c10,.slice A11 0 c11] 25)))
 clear Bm
 have Bm:=Nm
 clear Nm
 have Nxc:=aK (blk_below Bxc.out (below_alloc (Below.refl _ _) (.cells #[.int .i64 0,.slice A10 0 c10,.slice A11 0 c11] 25)))
 clear Bxc
 have Bxc:=Nxc
 clear Nxc
 have Nxr:=aK (blk_below Bxr.out (below_alloc (Below.refl _ _) (.cells #[.int .i64 0,.slice A10 0 c10,.slice A11 0 c11] 25)))
 clear Bxr
 have Bxr:=Nxr
 clear Nxr
 have Nx:=aK (blk_below Bx.out (below_alloc (Below.refl _ _) (.cells #[.int .i64 0,.slice A10 0 c10,.slice A11 0 c11] 25)))
 clear Bx
 have Bx:=Nx
 clear Nx
 have Ns:=aK (blk_below Bs.out (below_alloc (Below.refl _ _) (.cells #[.int .i64 0,.slice A10 0 c10,.slice A11 0 c11] 25)))
 clear Bs
 have Bs:=Ns
 clear Ns
 have Nc:=aK (blk_below Bc.out (below_alloc (Below.refl _ _) (.cells #[.int .i64 0,.slice A10 0 c10,.slice A11 0 c11] 25)))
 clear Bc
 have Bc:=Nc
 clear Nc
 have Nr:=aK (blk_below Br.out (below_alloc (Below.refl _ _) (.cells #[.int .i64 0,.slice A10 0 c10,.slice A11 0 c11] 25)))
 clear Br
 have Br:=Nr
 clear Nr
 have No:=aK (blk_below Bo.out (below_alloc (Below.refl _ _) (.cells #[.int .i64 0,.slice A10 0 c10,.slice A11 0 c11] 25)))
 clear Bo
 have Bo:=No
 clear No
 have Nn:=aK (blk_below Bn.out (below_alloc (Below.refl _ _) (.cells #[.int .i64 0,.slice A10 0 c10,.slice A11 0 c11] 25)))
 clear Bn
 have Bn:=Nn
 clear Nn
 have NB_:=aK (below_step HB.out (below_alloc (Below.refl _ _) (.cells #[.int .i64 0,.slice A10 0 c10,.slice A11 0 c11] 25)))
 clear HB
 have HB:=NB_
 clear NB_
 have NF:=aK (Kd.R_below RF.out (below_alloc (Below.refl _ _) (.cells #[.int .i64 0,.slice A10 0 c10,.slice A11 0 c11] 25)))
 clear RF
 have RF:=NF
 clear NF
 have Ns1:=aK (Kd.R_below Rs1.out (below_alloc (Below.refl _ _) (.cells #[.int .i64 0,.slice A10 0 c10,.slice A11 0 c11] 25)))
 clear Rs1
 have Rs1:=Ns1
 clear Ns1
 have Ns2:=aK (Kd.R_below Rs2.out (below_alloc (Below.refl _ _) (.cells #[.int .i64 0,.slice A10 0 c10,.slice A11 0 c11] 25)))
 clear Rs2
 have Rs2:=Ns2
 clear Ns2
 have Nn1:=aK (Kd.R_below Rn1.out (below_alloc (Below.refl _ _) (.cells #[.int .i64 0,.slice A10 0 c10,.slice A11 0 c11] 25)))
 clear Rn1
 have Rn1:=Nn1
 clear Nn1
 have h_:=blk_new W13 (.cells #[.int .i64 0,.slice A10 0 c10,.slice A11 0 c11] 25)
 have Bq:=aK h_
 clear h_
 go_upto_region 12 with (fail)
 generalize hq:W13.heap.size=bq at *
 generalize W13.alloc (.cells #[.int .i64 0,.slice A10 0 c10,.slice A11 0 c11] 25)=V13 at *
 clear hq
 clear Bq
 have ps1:=(blk_cell Bs.out 1).trans rfl
 have pn1:=(blk_cell Bn.out 1).trans rfl
 obtain ⟨i0,hi0,_,hsz,_⟩:=info_parts info5
 have hcut:=cut_to (P:=Tryz.prog) 28 5 .i64 Tryz.underlying28 hi0 (some ⟨gF,0,none⟩) 22 cb 8 (by omega) (by omega) HCB.out
 have hstr:strOfNums (awF.take 8)=⟨#[70,77,69,84,0,1,0,0]⟩:=rfl
 have hcv:=Kd.C_string (P:=Tryz.prog) (src:=28) (dst:=9) (e:=5) (n:=8) (c:=cb) Tryz.underlying28 Tryz.underlying5 Tryz.underlying9 (Kd.C_take (m:=8) (Kd.R_reads' RF.out).2.2 (by decide))
 rw [hstr] at hcv
 clear hstr
 have pm0:=(blk_cell Bm.out 0).trans rfl
 have pm1:=(blk_cell Bm.out 1).trans rfl
 have pm2:=(blk_cell Bm.out 2).trans rfl
 go_wp2_with fail
 refine (aw_same_calls (C_none_any _ _ _) (C_none_any _ _ _)).mono ?_
 rintro e W14 ⟨rfl,hb⟩
 clear ps1
 clear pn1
 clear pm0
 clear pm1
 clear pm2
 clear hcv
 clear hcut
 have Nm:=aK (blk_below Bm.out hb)
 clear Bm
 have Bm:=Nm
 clear Nm
 have Nxc:=aK (blk_below Bxc.out hb)
 clear Bxc
 have Bxc:=Nxc
 clear Nxc
 have Nxr:=aK (blk_below Bxr.out hb)
 clear Bxr
 have Bxr:=Nxr
 clear Nxr
 have Nx:=aK (blk_below Bx.out hb)
 clear Bx
 have Bx:=Nx
 clear Nx
 have Ns:=aK (blk_below Bs.out hb)
 clear Bs
 have Bs:=Ns
 clear Ns
 have Nc:=aK (blk_below Bc.out hb)
 clear Bc
 have Bc:=Nc
 clear Nc
 have Nr:=aK (blk_below Br.out hb)
 clear Br
 have Br:=Nr
 clear Nr
 have No:=aK (blk_below Bo.out hb)
 clear Bo
 have Bo:=No
 clear No
 have Nn:=aK (blk_below Bn.out hb)
 clear Bn
 have Bn:=Nn
 clear Nn
 have NB_:=aK (below_step HB.out hb)
 clear HB
 have HB:=NB_
 clear NB_
 have NF:=aK (Kd.R_below RF.out hb)
 clear RF
 have RF:=NF
 clear NF
 have Ns1:=aK (Kd.R_below Rs1.out hb)
 clear Rs1
 have Rs1:=Ns1
 clear Ns1
 have Ns2:=aK (Kd.R_below Rs2.out hb)
 clear Rs2
 have Rs2:=Ns2
 clear Ns2
 have Nn1:=aK (Kd.R_below Rn1.out hb)
 clear Rn1
 have Rn1:=Nn1
 clear Nn1
 clear hb
 have ps0:=(blk_cell Bs.out 0).trans rfl
 have ps1:=(blk_cell Bs.out 1).trans rfl
 have ps2:=(blk_cell Bs.out 2).trans rfl
 have pc0:=(blk_cell Bc.out 0).trans rfl
 have pc1:=(blk_cell Bc.out 1).trans rfl
 have pc2:=(blk_cell Bc.out 2).trans rfl
 have pc3:=(blk_cell Bc.out 3).trans rfl
 have pr0:=(blk_cell Br.out 0).trans rfl
 have pr1:=(blk_cell Br.out 1).trans rfl
 have pr2:=(blk_cell Br.out 2).trans rfl
 have pr3:=(blk_cell Br.out 3).trans rfl
 have po0:=(blk_cell Bo.out 0).trans rfl
 have po1:=(blk_cell Bo.out 1).trans rfl
 have po2:=(blk_cell Bo.out 2).trans rfl
 have pn0:=(blk_cell Bn.out 0).trans rfl
 have pn1:=(blk_cell Bn.out 1).trans rfl
 have pn2:=(blk_cell Bn.out 2).trans rfl
 have px0:=(blk_cell Bx.out 0).trans rfl
 have px1:=(blk_cell Bx.out 1).trans rfl
 have px2:=(blk_cell Bx.out 2).trans rfl
 obtain ⟨gx,cap_,he_,-,-,-⟩:=Kd.R_form Rs1.out (by decide)
 injection he_ with he_ he2 he3
 clear he2 he3
 subst he_
 obtain ⟨c_,-,hM_,hcc_,-⟩:=Kd.R_elem Rs1.out ⟨0,0,0,0⟩ 0 (by decide) (by decide)
 rw [k50_openM hM_] at hcc_
 have x0:W14.cell? ⟨gx,0,none⟩=some (.int .i64 1):=hcc_ 0 _ rfl
 have x1:W14.cell? ⟨gx,1,none⟩=some (.int .i64 3):=hcc_ 1 _ rfl
 have x2:W14.cell? ⟨gx,2,none⟩=some (.int .i64 (-1)):=hcc_ 2 _ rfl
 have x3:W14.cell? ⟨gx,3,none⟩=some (.int .i64 1):=hcc_ 3 _ rfl
 clear hM_ hcc_
 obtain ⟨gy,cap_,he_,-,-,-⟩:=Kd.R_form Rs2.out (by decide)
 injection he_ with he_ he2 he3
 clear he2 he3
 subst he_
 obtain ⟨c_,-,hM_,hcc_,-⟩:=Kd.R_elem Rs2.out ⟨0,0,0,0⟩ 0 (by decide) (by decide)
 rw [k45_openM hM_] at hcc_
 have y0:W14.cell? ⟨gy,0,none⟩=some (.int .i64 1):=hcc_ 0 _ rfl
 have y1:W14.cell? ⟨gy,1,none⟩=some (.int .i64 1):=hcc_ 1 _ rfl
 have y2:W14.cell? ⟨gy,2,none⟩=some (.int .i64 0):=hcc_ 2 _ rfl
 have y3:W14.cell? ⟨gy,3,none⟩=some (.int .i64 (-2)):=hcc_ 3 _ rfl
 clear hM_ hcc_
 obtain ⟨gz,cap_,he_,-,-,-⟩:=Kd.R_form Rn1.out (by decide)
 injection he_ with he_ he2 he3
 clear he2 he3
 subst he_
 obtain ⟨c_,-,hM_,hcc_,-⟩:=Kd.R_elem Rn1.out ⟨0,0,0,0⟩ 0 (by decide) (by decide)
 rw [k50_openM hM_] at hcc_
 have z0:W14.cell? ⟨gz,0,none⟩=some (.int .i64 1):=hcc_ 0 _ rfl
 have z1:W14.cell? ⟨gz,1,none⟩=some (.int .i64 0):=hcc_ 1 _ rfl
 have z2:W14.cell? ⟨gz,2,none⟩=some (.int .i64 0):=hcc_ 2 _ rfl
 have z3:W14.cell? ⟨gz,3,none⟩=some (.int .i64 0):=hcc_ 3 _ rfl
 clear hM_ hcc_
 go_wp2_with fail
 refine (aw_valid_calls (lit1_C (x:=⟨1,5,-3,1⟩) Bxc.out) (lit1_R (x:=⟨1,1,0,-4⟩) Bxr.out)).mono ?_
 rintro e W15 ⟨rfl,hb⟩
 clear ps0
 clear ps1
 clear ps2
 clear pc0
 clear pc1
 clear pc2
 clear pc3
 clear pr0
 clear pr1
 clear pr2
 clear pr3
 clear po0
 clear po1
 clear po2
 clear pn0
 clear pn1
 clear pn2
 clear px0
 clear px1
 clear px2
 clear x0
 clear x1
 clear x2
 clear x3
 clear y0
 clear y1
 clear y2
 clear y3
 clear z0
 clear z1
 clear z2
 clear z3
 have Nm:=aK (blk_below Bm.out hb)
 clear Bm
 have Bm:=Nm
 clear Nm
 have Nxc:=aK (blk_below Bxc.out hb)
 clear Bxc
 have Bxc:=Nxc
 clear Nxc
 have Nxr:=aK (blk_below Bxr.out hb)
 clear Bxr
 have Bxr:=Nxr
 clear Nxr
 have Nx:=aK (blk_below Bx.out hb)
 clear Bx
 have Bx:=Nx
 clear Nx
 have Ns:=aK (blk_below Bs.out hb)
 clear Bs
 have Bs:=Ns
 clear Ns
 have Nc:=aK (blk_below Bc.out hb)
 clear Bc
 have Bc:=Nc
 clear Nc
 have Nr:=aK (blk_below Br.out hb)
 clear Br
 have Br:=Nr
 clear Nr
 have No:=aK (blk_below Bo.out hb)
 clear Bo
 have Bo:=No
 clear No
 have Nn:=aK (blk_below Bn.out hb)
 clear Bn
 have Bn:=Nn
 clear Nn
 have NB_:=aK (below_step HB.out hb)
 clear HB
 have HB:=NB_
 clear NB_
 have NF:=aK (Kd.R_below RF.out hb)
 clear RF
 have RF:=NF
 clear NF
 have Ns1:=aK (Kd.R_below Rs1.out hb)
 clear Rs1
 have Rs1:=Ns1
 clear Ns1
 have Ns2:=aK (Kd.R_below Rs2.out hb)
 clear Rs2
 have Rs2:=Ns2
 clear Ns2
 have Nn1:=aK (Kd.R_below Rn1.out hb)
 clear Rn1
 have Rn1:=Nn1
 clear Nn1
 clear hb
 go_wp2_with fail
 refine (aw_valid0_calls _).mono ?_
 rintro e W16 ⟨rfl,hb⟩
 have Nm:=aK (blk_below Bm.out hb)
 clear Bm
 have Bm:=Nm
 clear Nm
 have Nxc:=aK (blk_below Bxc.out hb)
 clear Bxc
 have Bxc:=Nxc
 clear Nxc
 have Nxr:=aK (blk_below Bxr.out hb)
 clear Bxr
 have Bxr:=Nxr
 clear Nxr
 have Nx:=aK (blk_below Bx.out hb)
 clear Bx
 have Bx:=Nx
 clear Nx
 have Ns:=aK (blk_below Bs.out hb)
 clear Bs
 have Bs:=Ns
 clear Ns
 have Nc:=aK (blk_below Bc.out hb)
 clear Bc
 have Bc:=Nc
 clear Nc
 have Nr:=aK (blk_below Br.out hb)
 clear Br
 have Br:=Nr
 clear Nr
 have No:=aK (blk_below Bo.out hb)
 clear Bo
 have Bo:=No
 clear No
 have Nn:=aK (blk_below Bn.out hb)
 clear Bn
 have Bn:=Nn
 clear Nn
 have NB_:=aK (below_step HB.out hb)
 clear HB
 have HB:=NB_
 clear NB_
 have NF:=aK (Kd.R_below RF.out hb)
 clear RF
 have RF:=NF
 clear NF
 have Ns1:=aK (Kd.R_below Rs1.out hb)
 clear Rs1
 have Rs1:=Ns1
 clear Ns1
 have Ns2:=aK (Kd.R_below Rs2.out hb)
 clear Rs2
 have Rs2:=Ns2
 clear Ns2
 have Nn1:=aK (Kd.R_below Rn1.out hb)
 clear Rn1
 have Rn1:=Nn1
 clear Nn1
 clear hb
 go_wp2
 go_ret
 exact ⟨rfl,HB.out⟩
end Go.Proofs.YtoemkemmiikhlaaGreat.PF4
