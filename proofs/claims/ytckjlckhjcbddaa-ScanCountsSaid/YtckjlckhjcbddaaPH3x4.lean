import Derived.Test.YtckjlckhjcbddaaPH3x0
import Derived.Test.YtckjlckhjcbddaaPH3x3
set_option maxRecDepth 100000
namespace Go.Proofs.Ytckjlckhjcbddaa.PH3
open Go.RowKit Go.Proofs.YtckjlckhjcbddaaW.PrintWords Go.Proofs.YtckjlckhjcbddaaW.PrintLast Go.Proofs.YtckjlckhjcbddaaW.PrintMore
attribute [local go_sem] max2_int min2_int max_two min_two max_three min_three max_four min_four
set_option linter.unusedVariables false
set_option linter.unusedSimpArgs false
theorem wrap64_id {n:Int} (h0 : -9223372036854775808≤n) (h1:n≤9223372036854775807):wrap64 n=n:=by unfold wrap64;omega
def eqP (x y:S31):Bool:=x.f0 == y.f0 && (x.f1 == y.f1)
theorem eqIn_pt (d : Nat) (w : World) (x0 y0 : Int) (x1 y1 : Int) :
  (Op.equalIn (d+2) 31 (.agg #[.int .i64 x0,.int .i64 x1]) (.agg #[.int .i64 y0,.int .i64 y1])).run Try.prog w = .ok (x0 == y0 && (x1 == y1)) w:=by
 refine eqA_of Try.underlying31 (by kernel_rfl) ?_
 refine eqf_cons (by rfl) (by go_simp;rfl) (by go_simp;rfl) (by go_simp) ?_
 exact eqf_last (by rfl) (by go_simp;rfl) (by go_simp;rfl) (by go_simp)
attribute [local go_sem high] eqIn_pt
def compGo (p : S31) : List S31 → List S31
 | []=>[]
 | y::l=>if eqP y p then compGo p l else y::compGo y l
def compB : List S31 → List S31
 | []=>[]
 | x::l=>x::compGo x l
theorem eqP_iff {x y:S31} : eqP x y=true↔x=y:=by
 unfold eqP
 simp only [Bool.and_eq_true,beq_iff_eq]
 exact ⟨fun h=>pt_ext h.1 h.2,fun h=>by subst h;exact ⟨rfl,rfl⟩⟩
theorem compGo_snoc (x q : S31) : ∀ (l : List S31) (p : S31), (p :: l).getLast? = some q → compGo p (l ++ [x]) = compGo p l ++ (if eqP x q then [] else [x])
 | [],p,h=>by
  obtain rfl:p=q:=by simpa using h
  by_cases hx:eqP x p=true
  ·simp [compGo,hx]
  ·simp [compGo,hx]
 | y::l,p,h=>by
  have h':(y::l).getLast?=some q:=by rw [← h];simp
  by_cases hy:eqP y p=true
  ·have:y=p:=eqP_iff.mp hy
   subst this
   simp only [List.cons_append,compGo,hy,if_true]
   exact compGo_snoc x q l y h'
  ·simp only [List.cons_append,compGo,hy]
   have:=compGo_snoc x q l y h'
   simp [this]
theorem compB_next (d:List S31) (m:Nat) (h0:1≤m) (h1:m<d.length):compB (d.take (m+1))=compB (d.take m)++(if eqP (rd_T31 d (m:Int)) (rd_T31 d ((m-1:Nat):Int)) then [] else [rd_T31 d (m:Int)]):=by
 have e1:d.take (m+1)=d.take m++[rd_T31 d (m:Int)]:=by
  rw [List.take_succ_eq_append_getElem h1]
  simp [rd_T31,List.getD_eq_getElem?_getD,List.getElem?_eq_getElem h1]
 have e2:(d.take m).getLast?=some (rd_T31 d ((m-1:Nat):Int)):=by
  rw [List.getLast?_take,if_neg (by omega)]
  simp [rd_T31,List.getD_eq_getElem?_getD,List.getElem?_eq_getElem (show m-1<d.length by omega)]
 rw [e1]
 cases hd:d.take m with
 | nil=>rw [hd] at e2;cases e2
 | cons p l=>rw [hd] at e2;exact congrArg (p :: ·) (compGo_snoc _ _ l p e2)
def PtsAt (cur:Array Value) (d:List S31):Prop:=∀ j x,d[j]?=some x→cur[j*2]?=some (.int .i64 x.f0)∧cur[j*2+1]?=some (.int .i64 x.f1)
theorem pts_of_take {cur:Array Value} {inner:List Value} {xs:List S31} (hi:Go.Sort.flatK encP 2 xs.toArray=inner.toArray) (ht:cur.toList.take (xs.length*2)=inner):PtsAt cur xs:=by
 intro j x hj
 obtain ⟨hx,rfl⟩:=List.getElem?_eq_some_iff.1 hj
 have key : ∀ q,q<2→cur[j*2+q]?=(encP xs[j])[q]?:=by
  intro q hq
  have e1:inner[j*2+q]?=cur[j*2+q]?:=by rw [← ht,List.getElem?_take_of_lt (by omega),Array.getElem?_toList]
  have e2:inner.toArray[j*2+q]?=cur[j*2+q]?:=by rw [List.getElem?_toArray];exact e1
  rw [← get_flatP xs j hx q hq,hi];exact e2.symm
 exact ⟨key 0 (by omega),key 1 (by omega)⟩
theorem take_of_pts {cur:Array Value} {xs:List S31} (hp:PtsAt cur xs) (hs:xs.length*2≤cur.size):cur.toList.take (xs.length*2)=(Go.Sort.flatK encP 2 xs.toArray).toList:=by
 apply List.ext_getElem?
 intro t
 by_cases ht:t<xs.length*2
 ·obtain ⟨j,q,hq,rfl⟩ : ∃ j q,q<2∧t=j*2+q:=⟨t / 2,t % 2,by omega,by omega⟩
  have hj:j<xs.length:=by omega
  rw [List.getElem?_take_of_lt ht,Array.getElem?_toList,Array.getElem?_toList,get_flatP xs j hj q hq]
  have:=hp j xs[j] (List.getElem?_eq_getElem hj)
  match q,hq with
  | 0,_=>exact this.1
  | 1,_=>exact this.2
 ·rw [List.getElem?_take_eq_none (by omega),List.getElem?_eq_none (by simp;omega)]
theorem row_of_pts {w : World} {base g cap : Nat} {ok : Nat → Prop} {cur : Array Value} {d : List S31} (hb : w.heap[g]? = some (.cells cur 31 (0, 0))) (hp : PtsAt cur d) (hbase : base ≤ g) (hok : ok g) (hle : d.length ≤ cap) (hcap : cap ≤ 9223372036854775807) (hs : cur.size = cap * 2) :
  Kd.R k31 31 w base ok (.slice (some ⟨g,0,none⟩) d.length cap) d:=by
 refine ⟨fun k hk=>?_,(Go.Sort.flatK encP 2 d.toArray).toList,⟨by simp;rfl,.inr ⟨g,cap,cur,rfl,hbase,hb,hle,hcap,hs,?_⟩⟩,reps_flatP d⟩
 ·have:g=k:=by simpa [Value.ownBlock] using hk
  rw [← this];exact hok
 ·exact take_of_pts hp (by omega)
theorem pts_set {cur:Array Value} {d:List S31} (hp:PtsAt cur d) (k:Nat) (hk:k<d.length) (hs:d.length*2≤cur.size) (x:S31):PtsAt ((cur.setIfInBounds (k*2) (.int .i64 x.f0)).setIfInBounds (k*2+1) (.int .i64 x.f1)) (d.set k x):=by
 intro j y hj
 by_cases e:j=k
 ·subst e
  rw [List.getElem?_set_self hk] at hj
  obtain rfl:=Option.some.inj hj
  constructor
  ·rw [Array.getElem?_setIfInBounds_ne (by omega),Array.getElem?_setIfInBounds_self_of_lt (by omega)]
  ·rw [Array.getElem?_setIfInBounds_self_of_lt (by simp;omega)]
 ·rw [List.getElem?_set_ne (Ne.symm e)] at hj
  have:=hp j y hj
  constructor
  ·rw [Array.getElem?_setIfInBounds_ne (by omega),Array.getElem?_setIfInBounds_ne (by omega)];exact this.1
  ·rw [Array.getElem?_setIfInBounds_ne (by omega),Array.getElem?_setIfInBounds_ne (by omega)];exact this.2
theorem pts_rd {cur:Array Value} {d:List S31} (hp:PtsAt cur d) (j:Nat) (hj:j<d.length):cur[j*2]?=some (.int .i64 (rd_T31 d (j:Int)).f0)∧cur[j*2+1]?=some (.int .i64 (rd_T31 d (j:Int)).f1) :=
 hp j _ (by simp [rd_T31,List.getD_eq_getElem?_getD,List.getElem?_eq_getElem hj])
theorem zero_pts (n:Nat):(Builtin.zeroCells #[.int .i64 0,.int .i64 0] n).toList=List.replicate (n*2) (Value.int .i64 0):=by
 apply List.ext_getElem
 ·simp [Builtin.zeroCells]
 ·intro i h1 h2
  have hm:i % 2=0∨i % 2=1:=by omega
  rcases hm with h|h <;> simp [Builtin.zeroCells,h]
theorem clear_pts (w : World) (ty : TypeId) (b o n c : Nat) (hn : 0 < n) (hc : ∀ j, j < n * 2 → (w.cell? ⟨b, o + j, none⟩).isSome = true) (hf : ∀ j, j < n * 2 → w.frozen? ⟨b, o + j, none⟩ = false) :
  (Builtin.clear_ #[32] ty #[.slice (some ⟨b,o,none⟩) n c]).run Try.prog w = .ok (.tuple #[]) (w.setCells b o (List.replicate (n*2) (.int .i64 0))):=by
 have hst:=run_storeCells_cells (P:=Try.prog) b o (List.replicate (n*2) (Value.int .i64 0)) 0 w (by simpa using hc) (by simpa using hf) (by intro v hv';rw [List.eq_of_mem_replicate hv'];rfl)
 simp only [Nat.add_zero] at hst
 have hz : ∀ w,(zeroValue 31).run Try.prog w = .ok (.agg #[.int .i64 0,.int .i64 0]) w:=fun w=>by kernel_rfl
 have hcl:(Value.agg #[.int .i64 0,.int .i64 0]).cells=#[.int .i64 0,.int .i64 0]:=rfl
 obtain ⟨m,rfl⟩ : ∃ m,n=m+1:=⟨n-1,by omega⟩
 simp [Builtin.clear_,run_underlying Try.underlying32,hz,hcl,zero_pts,hst]
theorem setCells_row {g : Nat} {e : TypeId} : ∀ (vs : List Value) (w : World) (cur : Array Value) (o : Nat), w.heap[g]? = some (.cells cur e (0, 0)) → ∃ cur'', (w.setCells g o vs).heap[g]? = some (.cells cur'' e (0, 0)) ∧ cur''.size = cur.size ∧ (∀ i, i < o → cur''[i]? = cur[i]?) ∧ w.grownBy (w.setCells g o vs) (some g)
 | [],w,cur,o,h=>⟨cur,h,rfl,fun _ _=>rfl,rfl,rfl,rfl,Nat.le_refl _,fun _ _ _=>rfl⟩
 | v::vs,w,cur,o,h=>by
  obtain ⟨cur'',h1,h2,h3,h4⟩:=setCells_row vs (w.setCell ⟨g,o,none⟩ v) (cur.setIfInBounds o v) (o+1) (blk_set h o v)
  refine ⟨cur'',h1,by rw [h2];simp,fun i hi=>?_,?_⟩
  ·rw [h3 i (by omega),Array.getElem?_setIfInBounds_ne (by omega)]
  ·have hs:(w.setCell ⟨g,o,none⟩ v).heap.size=w.heap.size:=by simp [World.setCell]
   exact ⟨h4.os,h4.tape,h4.output,Nat.le_trans (Nat.le_of_eq hs.symm) h4.size,fun k hk hne=>(h4.block k (by omega) hne).trans (Below.heap_setCell w ⟨g,o,none⟩ v k (fun e=>hne (by rw [e])))⟩
theorem rd_some (l:List S31) (j:Nat) (h:j<l.length):l[j]?=some (rd_T31 l (j:Int)):=by
 simp [rd_T31,List.getD_eq_getElem?_getD,List.getElem?_eq_getElem h]
theorem take_same {d:List S31} {kk:Nat} {x y:S31} (h:compB (d.take kk)=d.take kk) (hn:compB (d.take (kk+1))=compB (d.take kk)++(if eqP x y then [] else [x])) (hq:eqP x y=false) (hlt:kk<d.length) (hx:rd_T31 d (kk:Int)=x):compB (d.take (kk+1))=d.take (kk+1):=by
 rw [hn,hq,h,List.take_succ_eq_append_getElem hlt]
 congr 1
 rw [← hx]
 simp [rd_T31,List.getD_eq_getElem?_getD,List.getElem?_eq_getElem hlt]
def api_Point_79.f (l0:List S31):Option (List S31):=if l0.length≤1000000000 then some (compB l0) else none
set_option maxHeartbeats 8000000 in
theorem api_Point_79.calls (P0_ : Nat → Prop) (u9000_ : Value) (l0 : List S31) (r : List S31) (w0 w : World) (hB : Below w0.heap.size w0 w) (ho0 : Kd.R k31 31 w w0.heap.size P0_ u9000_ l0) (h : api_Point_79.f l0 = some r) :
  Calls Try.prog 79 #[u9000_] w fun e w'=>∃ v0_:Value,e = .returned v0_∧Kd.R k31 31 w' w0.heap.size P0_ v0_ r∧Below w0.heap.size w0 w':=by
 have hu:=Try.underlying31
 unfold api_Point_79.f at h
 by_cases hl:l0.length≤1000000000
 case neg=>rw [if_neg hl] at h;exact absurd h (by simp)
 rw [if_pos hl] at h
 injection h with h
 have HRES:=aK h
 have HR:=aK ho0
 have HB:=aK hB
 have HL:=aK hl
 clear h hl hB
 by_cases h2:l0.length<2
 ·have hr:r=l0:=by
   rw [← HRES.out]
   match l0,h2 with
   | [],_=>rfl
   | [x],_=>rfl
  obtain ⟨A,c,rfl⟩:=Kd.R_slice ho0
  subst hr
  have h2b:decide ((r.length:Int)<2)=true:=decide_eq_true (by omega)
  clear ho0 h2 HRES
  go_enter Try.func79,Try.ntmps79
  go_wp2
  go_ret
  exact ⟨_,rfl,HR.out,HB.out⟩
 ·obtain ⟨h0,inner,ho,hr⟩:=ho0
  have hi:=cells_flatP hr
  rcases ho.2 with ⟨rfl,hn⟩|⟨g,cap,cur,rfl,hbase,hh,hle,hcap,hsz,htk⟩
  ·exact absurd hn (by omega)
  have hk2:k31.sz=2:=rfl
  rw [hk2] at hsz htk
  have hin:inner.length=l0.length*2:=hr.1
  have PA:=aK (pts_of_take hi htk)
  have HH:=aK hh
  have HG:=aK (show w0.heap.size≤g∧P0_ g∧l0.length≤cap∧cap≤9223372036854775807∧cur.size=cap*2∧2≤l0.length from ⟨hbase,h0 g (by simp [Value.ownBlock]),hle,hcap,hsz,by omega⟩)
  have h2b:decide ((l0.length:Int)<2)=false:=decide_eq_false (by omega)
  clear h0 ho hr hi hh hbase hle hcap hsz htk hin hk2 h2
  go_enter Try.func79,Try.ntmps79
  go_wp2
  go_loopg [3] l0.length (fun gg s3 wr=>∃ kk m:Nat,1≤kk∧kk≤l0.length∧l0.length-kk≤gg∧s3 = .int .i64 kk∧Aside0 (compB (l0.take kk)=l0.take kk)∧wr=w.drewN m)
  case atStart=>exact ⟨1,0,by omega,by have:=HG.out.2.2.2.2.2;omega,by omega,rfl,⟨by cases l0 with|nil=>rfl|cons x l=>simp [compB,compGo]⟩,rfl⟩
  case round =>
   obtain ⟨kk,m,hk1,hkk,hg,rfl,HC,rfl⟩:=hrel
   by_cases hlt:kk<l0.length
   ·have hlti:(kk:Int)<(l0.length:Int):=by omega
    have hp:=pts_rd PA.out kk hlt
    have hq:=pts_rd PA.out (kk-1) (by omega)
    have hc1:(w.drewN (m+1)).cell? ⟨g,kk*2,none⟩=some (.int .i64 (rd_T31 l0 (kk:Int)).f0):=(blk_cell HH.out _).trans hp.1
    have hc2:(w.drewN (m+1)).cell? ⟨g,kk*2+1,none⟩=some (.int .i64 (rd_T31 l0 (kk:Int)).f1):=(blk_cell HH.out _).trans hp.2
    have hc3:(w.drewN (m+1)).cell? ⟨g,(kk-1)*2,none⟩=some (.int .i64 (rd_T31 l0 ((kk-1:Nat):Int)).f0):=(blk_cell HH.out _).trans hq.1
    have hc4:(w.drewN (m+1)).cell? ⟨g,(kk-1)*2+1,none⟩=some (.int .i64 (rd_T31 l0 ((kk-1:Nat):Int)).f1):=(blk_cell HH.out _).trans hq.2
    have hnx:=compB_next l0 kk hk1 hlt
    have HNX:=aK hnx
    have C1:=aK hc1
    have C2:=aK hc2
    have C3:=aK hc3
    have C4:=aK hc4
    clear hp hq hc1 hc2 hc3 hc4 hnx
    obtain ⟨x,hx⟩ : ∃ x,rd_T31 l0 (kk:Int)=x:=⟨_,rfl⟩
    obtain ⟨y,hy⟩ : ∃ y,rd_T31 l0 ((kk-1:Nat):Int)=y:=⟨_,rfl⟩
    rw [hx] at C1 C2 HNX
    rw [hy] at C3 C4 HNX
    have HX:=aK hx
    clear hx hy
    have hwk:wrap64 ((kk:Int)-1)=((kk-1:Nat):Int):=(wrap64_id (by have:=HL.out;omega) (by have:=HL.out;omega)).trans (by omega)
    have hwk2:wrap64 ((kk:Int)+1)=(kk:Int)+1:=wrap64_id (by have:=HL.out;omega) (by have:=HL.out;omega)
    have hlt1:kk-1<l0.length:=by omega
    have hkc : ¬ (cap=kk):=by have:=HG.out.2.2.1;omega
    cases hb:(x.f0 == y.f0 && (x.f1 == y.f1)) with
    | false =>
     have HQ:=aK (show eqP x y=false from hb)
     go_wp2
     refine start_ (n:=10) (S:=fun w'=>w'.cell? ⟨g,kk*2,none⟩=some (.int .i64 x.f0)∧w'.cell? ⟨g,kk*2+1,none⟩=some (.int .i64 x.f1)∧w'.cell? ⟨g,(kk-1)*2,none⟩=some (.int .i64 y.f0)∧w'.cell? ⟨g,(kk-1)*2+1,none⟩=some (.int .i64 y.f1)) (ds:=[]) #[false,false,false,false,false,false,false,false,false,false] (by kernel_rfl) rfl rfl ⟨C1.out,C2.out,C3.out,C4.out⟩ (fun hHeld=>?_)
     refine pure_ (i:=0) (N:=some 16) (v:=?_) (a':=?_) #[true,false,false,false,false,false,false,false,false,false] rfl rfl (by kernel_rfl) (fun _ _ _ h=>h) (Or.inl ⟨by rfl,?_⟩) ?_ ?_
     rotate_left
     ·intro w'
      go_simp
      with_reducible rfl
     rotate_left
     ·simp only [Act.put,lS,i64_w,i32_w]
      rfl
     refine pure_ (i:=1) (N:=some 17) (v:=?_) (a':=?_) #[true,true,false,false,false,false,false,false,false,false] rfl rfl (by kernel_rfl) (fun _ _ _ h=>h) (Or.inl ⟨by rfl,?_⟩) ?_ ?_
     rotate_left
     ·intro w'
      go_simp
      with_reducible rfl
     rotate_left
     ·simp only [Act.put,lS,i64_w,i32_w]
      rfl
     refine pure_ (i:=2) (N:=some 18) (v:=?_) (a':=?_) #[true,true,true,false,false,false,false,false,false,false] rfl rfl (by kernel_rfl) (fun _ _ _ h=>h) (Or.inl ⟨by rfl,?_⟩) ?_ ?_
     rotate_left
     ·intro w'
      go_simp
      with_reducible rfl
     rotate_left
     ·simp only [Act.put,lS,i64_w,i32_w]
      rfl
     refine pure_ (i:=4) (N:=some 20) (v:=?_) (a':=?_) #[true,true,true,false,true,false,false,false,false,false] rfl rfl (by kernel_rfl) (fun _ _ _ h=>h) (Or.inl ⟨by rfl,?_⟩) ?_ ?_
     rotate_left
     ·intro w'
      go_simp
      with_reducible rfl
     rotate_left
     ·simp only [Act.put,lS,i64_w,i32_w]
      rfl
     refine pure_ (i:=5) (N:=some 21) (v:=?_) (a':=?_) #[true,true,true,false,true,true,false,false,false,false] rfl rfl (by kernel_rfl) (fun _ _ _ h=>h) (Or.inl ⟨by rfl,?_⟩) ?_ ?_
     rotate_left
     ·intro w'
      go_simp
      with_reducible rfl
     rotate_left
     ·simp only [Act.put,lS,i64_w,i32_w]
      rfl
     refine pure_ (i:=6) (N:=some 22) (v:=?_) (a':=?_) #[true,true,true,false,true,true,true,false,false,false] rfl rfl (by kernel_rfl) (fun _ _ _ h=>h) (Or.inl ⟨by rfl,?_⟩) ?_ ?_
     rotate_left
     ·intro w'
      go_simp
      with_reducible rfl
     rotate_left
     ·simp only [Act.put,lS,i64_w,i32_w]
      rfl
     refine pure_ (i:=7) (N:=some 23) (v:=?_) (a':=?_) #[true,true,true,false,true,true,true,true,false,false] rfl rfl (by kernel_rfl) (fun _ _ _ h=>h) (Or.inl ⟨by rfl,?_⟩) ?_ ?_
     rotate_left
     ·intro w'
      go_simp
      with_reducible rfl
     rotate_left
     ·simp only [Act.put,lS,i64_w,i32_w]
      rfl
     refine take_ (i:=3) (N:=some 19) (v:=?_) (a':=?_) #[true,true,true,true,true,true,true,true,false,false] rfl rfl (by kernel_rfl) (fun _ _ _ h=>h) (Or.inl ⟨by rfl,?_⟩) hHeld ?_ ?_
     rotate_left
     ·rintro w' ⟨s0,s1,s2,s3⟩
      go_simp
      with_reducible rfl
     rotate_left
     ·simp only [Act.put,lS,i64_w,i32_w]
      rfl
     refine take_ (i:=8) (N:=some 24) (v:=?_) (a':=?_) #[true,true,true,true,true,true,true,true,true,false] rfl rfl (by kernel_rfl) (fun _ _ _ h=>h) (Or.inl ⟨by rfl,?_⟩) hHeld ?_ ?_
     rotate_left
     ·rintro w' ⟨s0,s1,s2,s3⟩
      go_simp
      with_reducible rfl
     rotate_left
     ·simp only [Act.put,lS,i64_w,i32_w]
      rfl
     refine pure_ (i:=9) (N:=some 25) (v:=?_) (a':=?_) #[true,true,true,true,true,true,true,true,true,true] rfl rfl (by kernel_rfl) (fun _ _ _ h=>h) (Or.inl ⟨by rfl,?_⟩) ?_ ?_
     rotate_left
     ·intro w'
      go_simp
      with_reducible rfl
     rotate_left
     ·simp only [Act.put,lS,i64_w,i32_w]
      rfl
     refine done_ (by kernel_rfl) ?_
     go_wp2
     go_roundg (l0.length-(kk+1))
     case measure=>omega
     case rel =>
      exact ⟨kk+1,m+1,by omega,by omega,by omega,by go_num,⟨take_same HC.out HNX.out HQ.out hlt HX.out⟩,by rfl⟩
    | true =>
     have HQ:=aK (show eqP x y=true from hb)
     go_wp2
     refine start_ (n:=10) (S:=fun w'=>w'.cell? ⟨g,kk*2,none⟩=some (.int .i64 x.f0)∧w'.cell? ⟨g,kk*2+1,none⟩=some (.int .i64 x.f1)∧w'.cell? ⟨g,(kk-1)*2,none⟩=some (.int .i64 y.f0)∧w'.cell? ⟨g,(kk-1)*2+1,none⟩=some (.int .i64 y.f1)) (ds:=[]) #[false,false,false,false,false,false,false,false,false,false] (by kernel_rfl) rfl rfl ⟨C1.out,C2.out,C3.out,C4.out⟩ (fun hHeld=>?_)
     refine pure_ (i:=0) (N:=some 16) (v:=?_) (a':=?_) #[true,false,false,false,false,false,false,false,false,false] rfl rfl (by kernel_rfl) (fun _ _ _ h=>h) (Or.inl ⟨by rfl,?_⟩) ?_ ?_
     rotate_left
     ·intro w'
      go_simp
      with_reducible rfl
     rotate_left
     ·simp only [Act.put,lS,i64_w,i32_w]
      rfl
     refine pure_ (i:=1) (N:=some 17) (v:=?_) (a':=?_) #[true,true,false,false,false,false,false,false,false,false] rfl rfl (by kernel_rfl) (fun _ _ _ h=>h) (Or.inl ⟨by rfl,?_⟩) ?_ ?_
     rotate_left
     ·intro w'
      go_simp
      with_reducible rfl
     rotate_left
     ·simp only [Act.put,lS,i64_w,i32_w]
      rfl
     refine pure_ (i:=2) (N:=some 18) (v:=?_) (a':=?_) #[true,true,true,false,false,false,false,false,false,false] rfl rfl (by kernel_rfl) (fun _ _ _ h=>h) (Or.inl ⟨by rfl,?_⟩) ?_ ?_
     rotate_left
     ·intro w'
      go_simp
      with_reducible rfl
     rotate_left
     ·simp only [Act.put,lS,i64_w,i32_w]
      rfl
     refine pure_ (i:=4) (N:=some 20) (v:=?_) (a':=?_) #[true,true,true,false,true,false,false,false,false,false] rfl rfl (by kernel_rfl) (fun _ _ _ h=>h) (Or.inl ⟨by rfl,?_⟩) ?_ ?_
     rotate_left
     ·intro w'
      go_simp
      with_reducible rfl
     rotate_left
     ·simp only [Act.put,lS,i64_w,i32_w]
      rfl
     refine pure_ (i:=5) (N:=some 21) (v:=?_) (a':=?_) #[true,true,true,false,true,true,false,false,false,false] rfl rfl (by kernel_rfl) (fun _ _ _ h=>h) (Or.inl ⟨by rfl,?_⟩) ?_ ?_
     rotate_left
     ·intro w'
      go_simp
      with_reducible rfl
     rotate_left
     ·simp only [Act.put,lS,i64_w,i32_w]
      rfl
     refine pure_ (i:=6) (N:=some 22) (v:=?_) (a':=?_) #[true,true,true,false,true,true,true,false,false,false] rfl rfl (by kernel_rfl) (fun _ _ _ h=>h) (Or.inl ⟨by rfl,?_⟩) ?_ ?_
     rotate_left
     ·intro w'
      go_simp
      with_reducible rfl
     rotate_left
     ·simp only [Act.put,lS,i64_w,i32_w]
      rfl
     refine pure_ (i:=7) (N:=some 23) (v:=?_) (a':=?_) #[true,true,true,false,true,true,true,true,false,false] rfl rfl (by kernel_rfl) (fun _ _ _ h=>h) (Or.inl ⟨by rfl,?_⟩) ?_ ?_
     rotate_left
     ·intro w'
      go_simp
      with_reducible rfl
     rotate_left
     ·simp only [Act.put,lS,i64_w,i32_w]
      rfl
     refine take_ (i:=3) (N:=some 19) (v:=?_) (a':=?_) #[true,true,true,true,true,true,true,true,false,false] rfl rfl (by kernel_rfl) (fun _ _ _ h=>h) (Or.inl ⟨by rfl,?_⟩) hHeld ?_ ?_
     rotate_left
     ·rintro w' ⟨s0,s1,s2,s3⟩
      go_simp
      with_reducible rfl
     rotate_left
     ·simp only [Act.put,lS,i64_w,i32_w]
      rfl
     refine take_ (i:=8) (N:=some 24) (v:=?_) (a':=?_) #[true,true,true,true,true,true,true,true,true,false] rfl rfl (by kernel_rfl) (fun _ _ _ h=>h) (Or.inl ⟨by rfl,?_⟩) hHeld ?_ ?_
     rotate_left
     ·rintro w' ⟨s0,s1,s2,s3⟩
      go_simp
      with_reducible rfl
     rotate_left
     ·simp only [Act.put,lS,i64_w,i32_w]
      rfl
     refine pure_ (i:=9) (N:=some 25) (v:=?_) (a':=?_) #[true,true,true,true,true,true,true,true,true,true] rfl rfl (by kernel_rfl) (fun _ _ _ h=>h) (Or.inl ⟨by rfl,?_⟩) ?_ ?_
     rotate_left
     ·intro w'
      go_simp
      with_reducible rfl
     rotate_left
     ·simp only [Act.put,lS,i64_w,i32_w]
      rfl
     refine done_ (by kernel_rfl) ?_
     go_wp2
     obtain ⟨n2,hn2⟩ : ∃ n2,n2+kk=l0.length:=⟨l0.length-kk,by omega⟩
     have hs2:l0.length-kk=n2:=by omega
     rw [hs2]
     clear hs2 hkc hlt1 hwk hwk2 hg hlti
     have HN2:=aK hn2
     have HK1:=aK hk1
     go_loopg [3,5] l0.length (fun gg s3 s5 wr=>∃ (kp k2:Nat) (cur':Array Value) (d':List S31),n2≤gg+k2∧1≤k2∧k2≤n2∧kk≤kp∧kp+1≤kk+k2∧s3 = .int .i64 kp∧s5 = .int .i64 k2∧Aside0 (d'.length=l0.length∧d'.take kp=compB (l0.take (kk+k2))∧∀ j,kk+k2≤j+1→d'[j]?=l0[j]?)∧Aside0 (PtsAt cur' d')∧Aside0 (wr.heap[g]?=some (.cells cur' 31 (0,0)))∧Aside0 (cur'.size=cap*2)∧Aside0 (Below w0.heap.size w0 wr))
     case atStart =>
      refine ⟨kk,1,cur,l0,by omega,by omega,by omega,by omega,by omega,rfl,rfl,⟨rfl,?_,fun _ _=>rfl⟩,PA,⟨HH.out⟩,⟨HG.out.2.2.2.2.1⟩,⟨pw_below_drewN HB.out _⟩⟩
      have:=HNX.out
      rw [if_pos HQ.out,List.append_nil,HC.out] at this
      exact this.symm
     case round =>
      obtain ⟨kp,k2,cur',d',hgk,hk2,hkl,hkk',hkp,rfl,rfl,HD,PD,HH',HS,HB'⟩:=hrel
      have hlN:=HL.out
      have hwp:wrap64 ((kp:Int)+1)=(kp:Int)+1:=wrap64_id (by omega) (by omega)
      have hw2:wrap64 ((k2:Int)+1)=(k2:Int)+1:=wrap64_id (by omega) (by omega)
      have hw3:wrap64 ((k2:Int)-1)=((k2-1:Nat):Int):=(wrap64_id (by omega) (by omega)).trans (by omega)
      clear hlN
      have HWP:=aK hwp
      have HW2:=aK hw2
      clear hwp hw2
      by_cases hlt2:k2<n2
      ·have hlti2:(k2:Int)<(n2:Int):=by omega
       have hlt3:k2-1<n2:=by omega
       have hkpl:kp<l0.length:=by omega
       have hx':d'[kk+k2]?=some (rd_T31 l0 ((kk+k2:Nat):Int)):=(HD.out.2.2 (kk+k2) (by omega)).trans (rd_some l0 (kk+k2) (by omega))
       have hy':d'[kk+(k2-1)]?=some (rd_T31 l0 ((kk+k2-1:Nat):Int)):=by
        have e:kk+(k2-1)=kk+k2-1:=by omega
        rw [e]
        exact (HD.out.2.2 (kk+k2-1) (by omega)).trans (rd_some l0 (kk+k2-1) (by omega))
       have hnx':=compB_next l0 (kk+k2) (by omega) (by omega)
       have hp:=PD.out _ _ hx'
       have hq:=PD.out _ _ hy'
       have hm:l0[kk+k2]?=some (rd_T31 l0 ((kk+k2:Nat):Int)):=rd_some l0 (kk+k2) (by omega)
       obtain ⟨x',hx2⟩ : ∃ x,rd_T31 l0 ((kk+k2:Nat):Int)=x:=⟨_,rfl⟩
       obtain ⟨y',hy2⟩ : ∃ y,rd_T31 l0 ((kk+k2-1:Nat):Int)=y:=⟨_,rfl⟩
       rw [hx2] at hx' hp hnx' hm
       rw [hy2] at hy' hq hnx'
       rw [Nat.add_mul] at hp hq
       have D1:=aK (show wr.drew.cell? ⟨g,kk*2+k2*2,none⟩=some (.int .i64 x'.f0) from (blk_cell HH'.out _).trans hp.1)
       have D2:=aK (show wr.drew.cell? ⟨g,kk*2+k2*2+1,none⟩=some (.int .i64 x'.f1) from (blk_cell HH'.out _).trans hp.2)
       have D3:=aK (show wr.drew.cell? ⟨g,kk*2+(k2-1)*2,none⟩=some (.int .i64 y'.f0) from (blk_cell HH'.out _).trans hq.1)
       have D4:=aK (show wr.drew.cell? ⟨g,kk*2+(k2-1)*2+1,none⟩=some (.int .i64 y'.f1) from (blk_cell HH'.out _).trans hq.2)
       have HNX':=aK hnx'
       have HM:=aK hm
       clear hx' hy' hx2 hy2 hnx' hp hq hm C1 C2 C3 C4
       cases hb':(x'.f0 == y'.f0 && (x'.f1 == y'.f1)) with
       | true =>
        have HQ':=aK (show eqP x' y'=true from hb')
        go_wp2
        refine start_ (n:=10) (S:=fun w'=>w'.cell? ⟨g,kk*2+k2*2,none⟩=some (.int .i64 x'.f0)∧w'.cell? ⟨g,kk*2+k2*2+1,none⟩=some (.int .i64 x'.f1)∧w'.cell? ⟨g,kk*2+(k2-1)*2,none⟩=some (.int .i64 y'.f0)∧w'.cell? ⟨g,kk*2+(k2-1)*2+1,none⟩=some (.int .i64 y'.f1)) (ds:=[]) #[false,false,false,false,false,false,false,false,false,false] (by kernel_rfl) rfl rfl ⟨D1.out,D2.out,D3.out,D4.out⟩ (fun hHeld=>?_)
        refine pure_ (i:=0) (N:=some 35) (v:=?_) (a':=?_) #[true,false,false,false,false,false,false,false,false,false] rfl rfl (by kernel_rfl) (fun _ _ _ h=>h) (Or.inl ⟨by rfl,?_⟩) ?_ ?_
        rotate_left
        ·intro w'
         go_simp
         with_reducible rfl
        rotate_left
        ·simp only [Act.put,lS,i64_w,i32_w]
         rfl
        refine pure_ (i:=1) (N:=some 36) (v:=?_) (a':=?_) #[true,true,false,false,false,false,false,false,false,false] rfl rfl (by kernel_rfl) (fun _ _ _ h=>h) (Or.inl ⟨by rfl,?_⟩) ?_ ?_
        rotate_left
        ·intro w'
         go_simp
         with_reducible rfl
        rotate_left
        ·simp only [Act.put,lS,i64_w,i32_w]
         rfl
        refine pure_ (i:=2) (N:=some 37) (v:=?_) (a':=?_) #[true,true,true,false,false,false,false,false,false,false] rfl rfl (by kernel_rfl) (fun _ _ _ h=>h) (Or.inl ⟨by rfl,?_⟩) ?_ ?_
        rotate_left
        ·intro w'
         go_simp
         with_reducible rfl
        rotate_left
        ·simp only [Act.put,lS,i64_w,i32_w]
         rfl
        refine pure_ (i:=4) (N:=some 39) (v:=?_) (a':=?_) #[true,true,true,false,true,false,false,false,false,false] rfl rfl (by kernel_rfl) (fun _ _ _ h=>h) (Or.inl ⟨by rfl,?_⟩) ?_ ?_
        rotate_left
        ·intro w'
         go_simp
         with_reducible rfl
        rotate_left
        ·simp only [Act.put,lS,i64_w,i32_w]
         rfl
        refine pure_ (i:=5) (N:=some 40) (v:=?_) (a':=?_) #[true,true,true,false,true,true,false,false,false,false] rfl rfl (by kernel_rfl) (fun _ _ _ h=>h) (Or.inl ⟨by rfl,?_⟩) ?_ ?_
        rotate_left
        ·intro w'
         go_simp
         with_reducible rfl
        rotate_left
        ·simp only [Act.put,lS,i64_w,i32_w]
         rfl
        refine pure_ (i:=6) (N:=some 41) (v:=?_) (a':=?_) #[true,true,true,false,true,true,true,false,false,false] rfl rfl (by kernel_rfl) (fun _ _ _ h=>h) (Or.inl ⟨by rfl,?_⟩) ?_ ?_
        rotate_left
        ·intro w'
         go_simp
         with_reducible rfl
        rotate_left
        ·simp only [Act.put,lS,i64_w,i32_w]
         rfl
        refine pure_ (i:=7) (N:=some 42) (v:=?_) (a':=?_) #[true,true,true,false,true,true,true,true,false,false] rfl rfl (by kernel_rfl) (fun _ _ _ h=>h) (Or.inl ⟨by rfl,?_⟩) ?_ ?_
        rotate_left
        ·intro w'
         go_simp
         with_reducible rfl
        rotate_left
        ·simp only [Act.put,lS,i64_w,i32_w]
         rfl
        refine take_ (i:=3) (N:=some 38) (v:=?_) (a':=?_) #[true,true,true,true,true,true,true,true,false,false] rfl rfl (by kernel_rfl) (fun _ _ _ h=>h) (Or.inl ⟨by rfl,?_⟩) hHeld ?_ ?_
        rotate_left
        ·rintro w' ⟨s0,s1,s2,s3⟩
         go_simp
         with_reducible rfl
        rotate_left
        ·simp only [Act.put,lS,i64_w,i32_w]
         rfl
        refine take_ (i:=8) (N:=some 43) (v:=?_) (a':=?_) #[true,true,true,true,true,true,true,true,true,false] rfl rfl (by kernel_rfl) (fun _ _ _ h=>h) (Or.inl ⟨by rfl,?_⟩) hHeld ?_ ?_
        rotate_left
        ·rintro w' ⟨s0,s1,s2,s3⟩
         go_simp
         with_reducible rfl
        rotate_left
        ·simp only [Act.put,lS,i64_w,i32_w]
         rfl
        refine pure_ (i:=9) (N:=some 44) (v:=?_) (a':=?_) #[true,true,true,true,true,true,true,true,true,true] rfl rfl (by kernel_rfl) (fun _ _ _ h=>h) (Or.inl ⟨by rfl,?_⟩) ?_ ?_
        rotate_left
        ·intro w'
         go_simp
         with_reducible rfl
        rotate_left
        ·simp only [Act.put,lS,i64_w,i32_w]
         rfl
        refine done_ (by kernel_rfl) ?_
        go_wp2
        go_roundg (n2-(k2+1))
        case measure=>omega
        case rel =>
         refine ⟨kp,k2+1,cur',d',by omega,by omega,by omega,by omega,by omega,rfl,congrArg (Value.int .i64) (by rw [HW2.out];rfl),⟨HD.out.1,?_,fun j hj=>HD.out.2.2 j (by omega)⟩,PD,HH',HS,⟨below_drew1 HB'.out⟩⟩
         have:=HNX'.out
         rw [if_pos HQ'.out,List.append_nil,← HD.out.2.1] at this
         exact this.symm
       | false =>
        have HQ':=aK (show eqP x' y'=false from hb')
        go_wp2
        refine start_ (n:=10) (S:=fun w'=>w'.cell? ⟨g,kk*2+k2*2,none⟩=some (.int .i64 x'.f0)∧w'.cell? ⟨g,kk*2+k2*2+1,none⟩=some (.int .i64 x'.f1)∧w'.cell? ⟨g,kk*2+(k2-1)*2,none⟩=some (.int .i64 y'.f0)∧w'.cell? ⟨g,kk*2+(k2-1)*2+1,none⟩=some (.int .i64 y'.f1)) (ds:=[]) #[false,false,false,false,false,false,false,false,false,false] (by kernel_rfl) rfl rfl ⟨D1.out,D2.out,D3.out,D4.out⟩ (fun hHeld=>?_)
        refine pure_ (i:=0) (N:=some 35) (v:=?_) (a':=?_) #[true,false,false,false,false,false,false,false,false,false] rfl rfl (by kernel_rfl) (fun _ _ _ h=>h) (Or.inl ⟨by rfl,?_⟩) ?_ ?_
        rotate_left
        ·intro w'
         go_simp
         with_reducible rfl
        rotate_left
        ·simp only [Act.put,lS,i64_w,i32_w]
         rfl
        refine pure_ (i:=1) (N:=some 36) (v:=?_) (a':=?_) #[true,true,false,false,false,false,false,false,false,false] rfl rfl (by kernel_rfl) (fun _ _ _ h=>h) (Or.inl ⟨by rfl,?_⟩) ?_ ?_
        rotate_left
        ·intro w'
         go_simp
         with_reducible rfl
        rotate_left
        ·simp only [Act.put,lS,i64_w,i32_w]
         rfl
        refine pure_ (i:=2) (N:=some 37) (v:=?_) (a':=?_) #[true,true,true,false,false,false,false,false,false,false] rfl rfl (by kernel_rfl) (fun _ _ _ h=>h) (Or.inl ⟨by rfl,?_⟩) ?_ ?_
        rotate_left
        ·intro w'
         go_simp
         with_reducible rfl
        rotate_left
        ·simp only [Act.put,lS,i64_w,i32_w]
         rfl
        refine pure_ (i:=4) (N:=some 39) (v:=?_) (a':=?_) #[true,true,true,false,true,false,false,false,false,false] rfl rfl (by kernel_rfl) (fun _ _ _ h=>h) (Or.inl ⟨by rfl,?_⟩) ?_ ?_
        rotate_left
        ·intro w'
         go_simp
         with_reducible rfl
        rotate_left
        ·simp only [Act.put,lS,i64_w,i32_w]
         rfl
        refine pure_ (i:=5) (N:=some 40) (v:=?_) (a':=?_) #[true,true,true,false,true,true,false,false,false,false] rfl rfl (by kernel_rfl) (fun _ _ _ h=>h) (Or.inl ⟨by rfl,?_⟩) ?_ ?_
        rotate_left
        ·intro w'
         go_simp
         with_reducible rfl
        rotate_left
        ·simp only [Act.put,lS,i64_w,i32_w]
         rfl
        refine pure_ (i:=6) (N:=some 41) (v:=?_) (a':=?_) #[true,true,true,false,true,true,true,false,false,false] rfl rfl (by kernel_rfl) (fun _ _ _ h=>h) (Or.inl ⟨by rfl,?_⟩) ?_ ?_
        rotate_left
        ·intro w'
         go_simp
         with_reducible rfl
        rotate_left
        ·simp only [Act.put,lS,i64_w,i32_w]
         rfl
        refine pure_ (i:=7) (N:=some 42) (v:=?_) (a':=?_) #[true,true,true,false,true,true,true,true,false,false] rfl rfl (by kernel_rfl) (fun _ _ _ h=>h) (Or.inl ⟨by rfl,?_⟩) ?_ ?_
        rotate_left
        ·intro w'
         go_simp
         with_reducible rfl
        rotate_left
        ·simp only [Act.put,lS,i64_w,i32_w]
         rfl
        refine take_ (i:=3) (N:=some 38) (v:=?_) (a':=?_) #[true,true,true,true,true,true,true,true,false,false] rfl rfl (by kernel_rfl) (fun _ _ _ h=>h) (Or.inl ⟨by rfl,?_⟩) hHeld ?_ ?_
        rotate_left
        ·rintro w' ⟨s0,s1,s2,s3⟩
         go_simp
         with_reducible rfl
        rotate_left
        ·simp only [Act.put,lS,i64_w,i32_w]
         rfl
        refine take_ (i:=8) (N:=some 43) (v:=?_) (a':=?_) #[true,true,true,true,true,true,true,true,true,false] rfl rfl (by kernel_rfl) (fun _ _ _ h=>h) (Or.inl ⟨by rfl,?_⟩) hHeld ?_ ?_
        rotate_left
        ·rintro w' ⟨s0,s1,s2,s3⟩
         go_simp
         with_reducible rfl
        rotate_left
        ·simp only [Act.put,lS,i64_w,i32_w]
         rfl
        refine pure_ (i:=9) (N:=some 44) (v:=?_) (a':=?_) #[true,true,true,true,true,true,true,true,true,true] rfl rfl (by kernel_rfl) (fun _ _ _ h=>h) (Or.inl ⟨by rfl,?_⟩) ?_ ?_
        rotate_left
        ·intro w'
         go_simp
         with_reducible rfl
        rotate_left
        ·simp only [Act.put,lS,i64_w,i32_w]
         rfl
        refine done_ (by kernel_rfl) ?_
        have hkd:=PD.out kp _ (rd_some d' kp (by rw [HD.out.1];exact hkpl))
        have E1:=(show wr.drew.cell? ⟨g,kp*2,none⟩=some (.int .i64 (rd_T31 d' (kp:Int)).f0) from (blk_cell HH'.out _).trans hkd.1)
        have E2:=(show wr.drew.cell? ⟨g,kp*2+1,none⟩=some (.int .i64 (rd_T31 d' (kp:Int)).f1) from (blk_cell HH'.out _).trans hkd.2)
        have F1:=(show wr.drew.frozen? ⟨g,kp*2,none⟩=false from blk_frozen HH'.out _)
        have F2:=(show wr.drew.frozen? ⟨g,kp*2+1,none⟩=false from blk_frozen HH'.out _)
        have hkpi:(kp:Int)<(l0.length:Int):=by omega
        have F3:=(show (wr.setCell ⟨g,kp*2,none⟩ (.int .i64 x'.f0)).drew.frozen? ⟨g,kp*2+1,none⟩=false from blk_frozen (blk_set HH'.out _ _) _)
        have E4:=(show (wr.setCell ⟨g,kp*2,none⟩ (.int .i64 x'.f0)).drew.cell? ⟨g,kp*2+1,none⟩=some (.int .i64 (rd_T31 d' (kp:Int)).f1) from (blk_cell (blk_set HH'.out _ _) _).trans (by rw [Array.getElem?_setIfInBounds_ne (by omega)];exact hkd.2))
        clear hkd
        go_wp2
        go_roundg (n2-(k2+1))
        case measure=>omega
        case rel =>
         have hs':d'.length*2≤cur'.size:=by have:=HS.out;have:=HD.out.1;have:=HG.out.2.2.1;omega
         refine ⟨kp+1,k2+1,_,d'.set kp x',by omega,by omega,by omega,by omega,by omega,congrArg (Value.int .i64) (by rw [HWP.out];rfl),congrArg (Value.int .i64) (by rw [HW2.out];rfl),⟨by rw [List.length_set];exact HD.out.1,?_,fun j hj=>?_⟩,⟨pts_set PD.out kp (by rw [HD.out.1];exact hkpl) hs' x'⟩,⟨blk_drew (blk_set (blk_set HH'.out _ _) _ _)⟩,⟨by simp;exact HS.out⟩,⟨below_drew1 (below_set (below_set HB'.out HG.out.1) HG.out.1)⟩⟩
         ·have:=HNX'.out
          rw [if_neg (by rw [HQ'.out];simp),← HD.out.2.1] at this
          rw [show kk+(k2+1)=kk+k2+1 by omega,this,List.take_succ_eq_append_getElem (by rw [List.length_set,HD.out.1];exact hkpl),List.take_set,List.set_eq_of_length_le (by rw [List.length_take];exact Nat.min_le_left _ _)]
          simp
         ·rw [List.getElem?_set_ne (by omega)]
          exact HD.out.2.2 j (by omega)
      ·have hlti2 : ¬ (k2:Int)<(n2:Int):=by omega
       have hke:kk+k2=l0.length:=by omega
       have hkpl:kp<l0.length:=by omega
       have hkpc : ¬ (cap=kp):=by have:=HG.out.2.2.1;omega
       have hclr:=clear_pts wr 0 g (kp*2) (l0.length-kp) (cap-kp) (by omega) (fun j hj=>by rw [blk_cell HH'.out];exact Option.isSome_iff_ne_none.mpr (fun e=>by have:=Array.getElem?_eq_none_iff.mp e;have:=HS.out;have:=HG.out.2.2.1;omega)) (fun j _=>blk_frozen HH'.out _)
       obtain ⟨cur'',q1,q2,q3,q4⟩:=setCells_row (List.replicate ((l0.length-kp)*2) (Value.int .i64 0)) wr cur' (kp*2) HH'.out
       generalize wr.setCells g (kp*2) (List.replicate ((l0.length-kp)*2) (Value.int .i64 0))=wz at *
       have Q1:=aK q1
       have Q2:=aK q2
       have Q3:=aK q3
       have Q4:=aK q4
       have HKE:=aK hke
       have hkpcap:kp≤cap:=by have:=HG.out.2.2.1;omega
       have hkpi:(kp:Int)<(l0.length:Int):=by omega
       clear q1 q2 q3 q4 hke
       go_wp2
       go_ret
       have hd:d'.take kp=r:=by rw [HD.out.2.1,HKE.out,List.take_length];exact HRES.out
       have hlen:r.length=kp:=by rw [← hd,List.length_take,HD.out.1];omega
       refine ⟨_,rfl,?_,HB'.out.grown Q4.out HB'.out.size (fun k hk=>by injection hk with hk;have:=HG.out.1;omega)⟩
       rw [← hlen]
       refine row_of_pts Q1.out ?_ HG.out.1 HG.out.2.1 (by omega) HG.out.2.2.2.1 (by rw [Q2.out];exact HS.out)
       intro j x hj
       have hj':j<kp:=by rw [← hlen];exact (List.getElem?_eq_some_iff.mp hj).1
       rw [Q3.out _ (by omega),Q3.out _ (by omega)]
       refine PD.out j x ?_
       rw [← hd,List.getElem?_take_of_lt hj'] at hj
       exact hj
   ·have hlti : ¬ (kk:Int)<(l0.length:Int):=by omega
    obtain rfl:kk=l0.length:=by omega
    go_wp2
    go_ret
    refine ⟨_,rfl,?_,pw_below_drewN HB.out _⟩
    have:=HC.out
    rw [List.take_length,HRES.out] at this
    subst this
    exact Kd.R_drewN HR.out _
def bndAt (l : List S31) : Nat → Int × Int × Int × Int
 | 0=>((rd_T31 l 0).f0,(rd_T31 l 0).f1,(rd_T31 l 0).f0,(rd_T31 l 0).f1)
 | i+1=>(mn (bndAt l i).1 (rd_T31 l (i:Int)).f0,mn (bndAt l i).2.1 (rd_T31 l (i:Int)).f1,mx (bndAt l i).2.2.1 (rd_T31 l (i:Int)).f0,mx (bndAt l i).2.2.2 (rd_T31 l (i:Int)).f1)
def flat_Bounds.f (l0:List S31):Option (Int×Int×Int×Int):=if 1≤l0.length∧l0.length≤1000000000 then some (bndAt l0 l0.length) else none
set_option maxHeartbeats 4000000 in
theorem bounds_calls (A0 : Option Addr) (c0 : Nat) (l0 : List S31) (r : Int × Int × Int × Int) (w : World) (hr0 : Kd.C k31 w A0 l0.length l0) (hc0 : l0.length ≤ c0) (h : flat_Bounds.f l0 = some r) :
  Calls Try.prog 44 #[.slice A0 l0.length c0] w fun e w'=>e = .returned (.agg #[.int .i64 r.1,.int .i64 r.2.1,.int .i64 r.2.2.1,.int .i64 r.2.2.2])∧Below w.heap.size w w':=by
 have hu:=Try.underlying31
 have hu2:=Try.underlying72
 unfold flat_Bounds.f at h
 by_cases hl:1≤l0.length∧l0.length≤1000000000
 case neg=>rw [if_neg hl] at h;exact absurd h (by simp)
 rw [if_pos hl] at h
 have HRES:=aK (Option.some.inj h)
 have HL:=aK hl
 have HR0:=aK hr0
 have h0i:(0:Int)<(l0.length:Int):=by omega
 have h0n:0<l0.length:=by omega
 have hne : ¬ (l0=[]):=by rintro rfl;simp at h0n
 obtain ⟨ad,rfl,hx0,hx1⟩:=at_T31 hr0 0 (by omega) h0i
 have P1:=aK (show (w.alloc (.cells #[.int .i64 0,.int .i64 0,.int .i64 0,.int .i64 0] 72)).drew.cell? ad=some (.int .i64 (rd_T31 l0 0).f0) from (World.cell?_alloc_lt w _ _ (World.block_lt_of_cell? w _ hx0)).trans hx0)
 have P2:=aK (show (w.alloc (.cells #[.int .i64 0,.int .i64 0,.int .i64 0,.int .i64 0] 72)).drew.cell? ⟨ad.block,ad.off+1,none⟩=some (.int .i64 (rd_T31 l0 0).f1) from (World.cell?_alloc_lt w _ _ (World.block_lt_of_cell? w _ hx1)).trans hx1)
 clear h hl hr0 hx0 hx1
 go_enter Try.func44,Try.ntmps44
 go_wp2
 refine start_ (n:=9) (S:=fun w'=>w'.cell? ad=some (.int .i64 (rd_T31 l0 0).f0)∧w'.cell? ⟨ad.block,ad.off+1,none⟩=some (.int .i64 (rd_T31 l0 0).f1)) (ds:=[8]) #[false,false,false,false,false,false,false,false,false] (by kernel_rfl) rfl rfl ⟨P1.out,P2.out⟩ (fun hHeld=>?_)
 refine pure_ (i:=0) (N:=some 6) (v:=?_) (a':=?_) #[true,false,false,false,false,false,false,false,false] rfl rfl (by kernel_rfl) (fun _ _ _ h=>h) (Or.inl ⟨by rfl,?_⟩) ?_ ?_
 rotate_left
 ·intro w'
  go_simp
  with_reducible rfl
 rotate_left
 ·simp only [Act.put,lS,i64_w,i32_w]
  rfl
 refine pure_ (i:=1) (N:=some 7) (v:=?_) (a':=?_) #[true,true,false,false,false,false,false,false,false] rfl rfl (by kernel_rfl) (fun _ _ _ h=>h) (Or.inl ⟨by rfl,?_⟩) ?_ ?_
 rotate_left
 ·intro w'
  go_simp
  with_reducible rfl
 rotate_left
 ·simp only [Act.put,lS,i64_w,i32_w]
  rfl
 refine pure_ (i:=3) (N:=some 9) (v:=?_) (a':=?_) #[true,true,false,true,false,false,false,false,false] rfl rfl (by kernel_rfl) (fun _ _ _ h=>h) (Or.inl ⟨by rfl,?_⟩) ?_ ?_
 rotate_left
 ·intro w'
  go_simp
  with_reducible rfl
 rotate_left
 ·simp only [Act.put,lS,i64_w,i32_w]
  rfl
 refine pure_ (i:=4) (N:=some 10) (v:=?_) (a':=?_) #[true,true,false,true,true,false,false,false,false] rfl rfl (by kernel_rfl) (fun _ _ _ h=>h) (Or.inl ⟨by rfl,?_⟩) ?_ ?_
 rotate_left
 ·intro w'
  go_simp
  with_reducible rfl
 rotate_left
 ·simp only [Act.put,lS,i64_w,i32_w]
  rfl
 refine take_ (i:=2) (N:=some 8) (v:=?_) (a':=?_) #[true,true,true,true,true,false,false,false,false] rfl rfl (by kernel_rfl) (fun _ _ _ h=>h) (Or.inl ⟨by rfl,?_⟩) hHeld ?_ ?_
 rotate_left
 ·rintro w' ⟨s0,s1⟩
  go_simp
  with_reducible rfl
 rotate_left
 ·simp only [Act.put,lS,i64_w,i32_w]
  rfl
 refine take_ (i:=5) (N:=some 11) (v:=?_) (a':=?_) #[true,true,true,true,true,true,false,false,false] rfl rfl (by kernel_rfl) (fun _ _ _ h=>h) (Or.inl ⟨by rfl,?_⟩) hHeld ?_ ?_
 rotate_left
 ·rintro w' ⟨s0,s1⟩
  go_simp
  with_reducible rfl
 rotate_left
 ·simp only [Act.put,lS,i64_w,i32_w]
  rfl
 refine pure_ (i:=6) (N:=some 12) (v:=?_) (a':=?_) #[true,true,true,true,true,true,true,false,false] rfl rfl (by kernel_rfl) (fun _ _ _ h=>h) (Or.inl ⟨by rfl,?_⟩) ?_ ?_
 rotate_left
 ·intro w'
  go_simp
  with_reducible rfl
 rotate_left
 ·simp only [Act.put,lS,i64_w,i32_w]
  rfl
 refine one_ (i:=7) (N:=some 3) #[true,true,true,true,true,true,true,true,false] rfl rfl (by kernel_rfl) (by decide) (fun K hK=>?_)
 refine value_ (w1:=?_) (v:=?_) (by rfl) rfl ?_ ?_
 rotate_left 2
 ·go_simp
  constructor
  ·rfl
  ·rfl
 refine hK.out _ _ ⟨(World.cell?_alloc_lt _ _ _ (World.block_lt_of_cell? _ _ hHeld.1)).trans hHeld.1,(World.cell?_alloc_lt _ _ _ (World.block_lt_of_cell? _ _ hHeld.2)).trans hHeld.2⟩ (fun hHeld=>?_)
 clear hK K
 refine norm_ (a':=?_) ?_ ?_
 rotate_left
 ·show Act.put _ (some 3) _=_
  simp only [Act.put,lS,i64_w,i32_w]
  rfl
 refine last_ (i:=8) (N:=none) #[true,true,true,true,true,true,true,true,true] rfl rfl (by kernel_rfl) (by decide) (fun K hK=>?_)
 refine skip_ (w1:=?_) (by rfl) rfl ?_ ?_
 rotate_left
 ·go_simp
  rfl
 refine hK.out _ _ ?_
 clear hK K
 refine done_ (by kernel_rfl) ?_
 go_wp2
 go_loopg [15] l0.length (fun gg s15 wr=>∃ kk:Nat,kk≤l0.length∧l0.length≤gg+kk∧s15 = .int .i64 kk∧Aside0 (Below w.heap.size w wr)∧Aside0 (wr.heap[w.heap.size]?=some (.cells #[.int .i64 0,.int .i64 0,.int .i64 0,.int .i64 0] 72 (0,0)))∧Aside0 (wr.heap[w.heap.size+1]?=some (.cells #[.int .i64 (bndAt l0 kk).1,.int .i64 (bndAt l0 kk).2.1,.int .i64 (bndAt l0 kk).2.2.1,.int .i64 (bndAt l0 kk).2.2.2] 72 (0,0))))
 case atStart=>exact ⟨0,by omega,by omega,rfl,⟨below_drew1 (below_alloc (below_alloc (Below.refl w.heap.size w) _) _)⟩,⟨blk_drew (blk_alloc (blk_new w _) _)⟩,⟨by have h:=blk_new (w.alloc (.cells #[.int .i64 0,.int .i64 0,.int .i64 0,.int .i64 0] 72)) (.cells #[.int .i64 (rd_T31 l0 0).f0,.int .i64 (rd_T31 l0 0).f1,.int .i64 (rd_T31 l0 0).f0,.int .i64 (rd_T31 l0 0).f1] 72);simp only [World.size_alloc] at h;exact h⟩⟩
 case round =>
  obtain ⟨kk,hkk,hg,rfl,HB,BR,BO⟩:=hrel
  by_cases hlt:kk<l0.length
  ·have hlti:(kk:Int)<(l0.length:Int):=by omega
   have hk0:0≤(kk:Int):=by omega
   obtain ⟨ad',e',hy0,hy1⟩:=at_T31 HR0.out (kk:Int) (by omega) hlti
   obtain rfl:ad=ad':=by injection e'
   simp only [Int.toNat_natCast] at hy0 hy1
   have hx0:=(HB.out.cell (World.block_lt_of_cell? w _ hy0)).trans hy0
   have hx1:=(HB.out.cell (World.block_lt_of_cell? w _ hy1)).trans hy1
   have hbn:bndAt l0 (kk+1)=(mn (bndAt l0 kk).1 (rd_T31 l0 (kk:Int)).f0,mn (bndAt l0 kk).2.1 (rd_T31 l0 (kk:Int)).f1,mx (bndAt l0 kk).2.2.1 (rd_T31 l0 (kk:Int)).f0,mx (bndAt l0 kk).2.2.2 (rd_T31 l0 (kk:Int)).f1):=rfl
   generalize rd_T31 l0 (kk:Int)=x at *
   generalize bndAt l0 kk=b at *
   obtain ⟨b0,b1,b2,b3⟩:=b
   simp only at hbn BO
   have e0:(if x.f0<b0 then x.f0 else b0)=mn b0 x.f0:=rfl
   have e1:(if x.f1<b1 then x.f1 else b1)=mn b1 x.f1:=rfl
   have e2:(if b2<x.f0 then x.f0 else b2)=mx b2 x.f0:=rfl
   have e3:(if b3<x.f1 then x.f1 else b3)=mx b3 x.f1:=rfl
   generalize mn b0 x.f0=m0 at *
   generalize mn b1 x.f1=m1 at *
   generalize mx b2 x.f0=m2 at *
   generalize mx b3 x.f1=m3 at *
   have HBN:=aK hbn
   have hwj:wrap64 ((kk:Int)+1)=((kk+1:Nat):Int):=by have:=HL.out;unfold wrap64;omega
   have HW:=aK hwj
   have ne1:w.heap.size+1≠wr.heap.size:=by have:=blk_lt BO.out;omega
   have V0:=blk_alloc BO.out (.cells #[.int .i64 x.f0,.int .i64 x.f1] 31)
   have X0:=blk_new wr (.cells #[.int .i64 x.f0,.int .i64 x.f1] 31)
   have a0:=(blk_cell V0 0).trans rfl
   have a1:=(blk_cell V0 1).trans rfl
   have g0:=blk_frozen V0 0
   have x0:=(blk_cell X0 0).trans rfl
   have x1:=(blk_cell X0 1).trans rfl
   have V1:=blk_set V0 0 (.int .i64 m0)
   have a2:=(blk_cell V1 1).trans rfl
   have g1:=blk_frozen V1 1
   have V2:=blk_set V1 1 (.int .i64 m1)
   have X1:=blk_far (blk_far X0 (p:=⟨w.heap.size+1,0,none⟩) (Ne.symm ne1) (.int .i64 m0)) (p:=⟨w.heap.size+1,1,none⟩) (Ne.symm ne1) (.int .i64 m1)
   have a3:=(blk_cell V2 2).trans rfl
   have a4:=(blk_cell V2 3).trans rfl
   have x2:=(blk_cell X1 0).trans rfl
   have x3:=(blk_cell X1 1).trans rfl
   have g2:=blk_frozen V2 2
   have V3:=blk_set V2 2 (.int .i64 m2)
   have a5:=(blk_cell V3 3).trans rfl
   have g3:=blk_frozen V3 3
   have V4:=aK (blk_set V3 3 (.int .i64 m3))
   clear hy0 hy1 hbn e' hwj V0 X0 V1 V2 X1 V3
   go_wp2
   go_roundg (l0.length-(kk+1))
   case measure=>omega
   case rel=>exact ⟨kk+1,by omega,by omega,congrArg (Value.int .i64) HW.out,⟨below_set (below_set (below_set (below_set (below_alloc HB.out _) (by omega)) (by omega)) (by omega)) (by omega)⟩,⟨blk_far (blk_far (blk_far (blk_far (blk_alloc BR.out _) (by simp) _) (by simp) _) (by simp) _) (by simp) _⟩,⟨by rw [HBN.out];exact V4.out⟩⟩
  ·have hlti : ¬ (kk:Int)<(l0.length:Int):=by omega
   obtain rfl:kk=l0.length:=by omega
   rw [HRES.out] at BO
   obtain ⟨b0,b1,b2,b3⟩:=r
   simp only at BO ⊢
   have a0:=(blk_cell BO.out 0).trans rfl
   have a1:=(blk_cell BO.out 1).trans rfl
   have a2:=(blk_cell BO.out 2).trans rfl
   have a3:=(blk_cell BO.out 3).trans rfl
   have R0:=BR.out
   have R1:=blk_set R0 0 (.int .i64 b0)
   have R2:=blk_set R1 1 (.int .i64 b1)
   have R3:=blk_set R2 2 (.int .i64 b2)
   have R4:=aK (blk_set R3 3 (.int .i64 b3))
   have q0:=(blk_cell R0 0).trans rfl
   have q1:=(blk_cell R1 1).trans rfl
   have q2:=(blk_cell R2 2).trans rfl
   have q3:=(blk_cell R3 3).trans rfl
   have g0:=blk_frozen R0 0
   have g1:=blk_frozen R1 1
   have g2:=blk_frozen R2 2
   have g3:=blk_frozen R3 3
   clear R0 R1 R2 R3
   go_wp2
   refine bodyPost_ret (results_cell_row rfl _ _ w.heap.size 72 #[.int .i64 b0,.int .i64 b1,.int .i64 b2,.int .i64 b3] (0,0) _ rfl R4.out Try.underlying72 rfl (by kernel_rfl)) rfl ?_
   exact ⟨rfl,below_set (below_set (below_set (below_set HB.out (Nat.le_refl _)) (Nat.le_refl _)) (Nat.le_refl _)) (Nat.le_refl _)⟩
theorem flat_Bounds.calls (A0 : Option Addr) (c0 : Nat) (l0 : List S31) (r1 r2 r3 r4 : Int) (w : World) (hr0 : Kd.C k31 w A0 l0.length l0) (hc0 : l0.length ≤ c0) (h : flat_Bounds.f l0 = some (r1, r2, r3, r4)) :
  Calls Try.prog 44 #[.slice A0 l0.length c0] w fun e w'=>e = .returned (.agg #[.int .i64 r1,.int .i64 r2,.int .i64 r3,.int .i64 r4])∧Below w.heap.size w w':=bounds_calls A0 c0 l0 (r1,r2,r3,r4) w hr0 hc0 h
def wind_Sign.f (a0_0:Int) (a0_1:Int) (a1_0:Int) (a1_1:Int) (a2_0:Int) (a2_1:Int):Option (Int):=(cmp_Compare_int.f (wrap64 ((wrap64 (a1_0-a0_0))*(wrap64 (a2_1-a0_1)))) (wrap64 ((wrap64 (a1_1-a0_1))*(wrap64 (a2_0-a0_0))))).bind fun t118=>(some t118)
set_option maxHeartbeats 8000000 in
theorem wind_Sign.calls (a0_0 : Int) (a0_1 : Int) (a1_0 : Int) (a1_1 : Int) (a2_0 : Int) (a2_1 : Int) (r : Int) (w : World) (h : wind_Sign.f a0_0 a0_1 a1_0 a1_1 a2_0 a2_1 = some r) :
  Calls Try.prog 62 #[.agg #[.int .i64 a0_0,.int .i64 a0_1],.agg #[.int .i64 a1_0,.int .i64 a1_1],.agg #[.int .i64 a2_0,.int .i64 a2_1]] w fun e w'=>e = .returned (.int .i64 r)∧Below w.heap.size w w':=by
 have hu31:=Try.underlying31
 have HB:=aK (Below.refl w.heap.size w)
 have H:((cmp_Compare_int.f (wrap64 ((wrap64 (a1_0-a0_0))*(wrap64 (a2_1-a0_1)))) (wrap64 ((wrap64 (a1_1-a0_1))*(wrap64 (a2_0-a0_0))))).bind fun t118=>(some t118))=some r:=h
 clear h
 replace H:=Option.bind_eq_some_iff.mp H
 obtain ⟨t118,A40,H⟩:=H
 replace H:(some t118)=some r:=H
 have A4:=aK A40
 clear A40
 obtain rfl:=Option.some.inj H
 go_enter Try.func62,Try.ntmps62
 go_wp2_with (first|((with_reducible refine gate_dst (N:=3) rfl ?_);refine box_event ?hg (N:=3) ?hd (cs:=#[.int .i64 a0_0,.int .i64 a0_1]) (t:=31) ?hr ?_;(case hd=>rfl);(case hg=>rfl);(case hr=>first|(go_simp;done)|(go_simp;rfl));intro gb115 hg w5 hbox hb;have n0_:=aK (below_step (by repeat (first|(with_reducible first|exact HB.out|apply below_alloc|apply pw_below_drewN|apply below_drew1)|exact HB.out)) hb);have n1_:=aK (hbox);have n2_:=aK ((by rw [hg];exact (below_size (by repeat (first|(with_reducible first|exact HB.out|apply below_alloc|apply pw_below_drewN|apply below_drew1)|exact HB.out))):w.heap.size≤gb115));have n3_:=n2_;clear HB;have HB:=n0_;have BK115:=n1_;have GW115:=n2_;have GE115:=n3_;clear n0_ n1_ n2_ n3_;clear hb hbox hg)|((with_reducible refine gate_dst (N:=4) rfl ?_);refine box_event ?hg (N:=4) ?hd (cs:=#[.int .i64 a1_0,.int .i64 a1_1]) (t:=31) ?hr ?_;(case hd=>rfl);(case hg=>rfl);(case hr=>first|(go_simp;done)|(go_simp;rfl));intro gb116 hg w6 hbox hb;have n0_:=aK (blk_below (g:=gb115) (o:=.cells #[.int .i64 a0_0,.int .i64 a0_1] 31 (0,0)) (by (with_reducible repeat (first|refine blk_drewN ?_ _|refine blk_drew ?_|refine blk_alloc ?_ _));exact BK115.out) hb);have n1_:=aK (below_step (by repeat (first|(with_reducible first|exact HB.out|apply below_alloc|apply pw_below_drewN|apply below_drew1|refine below_set ?_ GE115.out)|exact HB.out)) hb);have n2_:=aK (hbox);have n3_:=aK ((by rw [hg];exact (below_size (by repeat (first|(with_reducible first|exact HB.out|apply below_alloc|apply pw_below_drewN|apply below_drew1|refine below_set ?_ GE115.out)|exact HB.out))):w.heap.size≤gb116));have n4_:=n3_;have n5_:=aK ((by rw [hg];exact Nat.ne_of_lt (blk_lt (g:=gb115) (o:=.cells #[.int .i64 a0_0,.int .i64 a0_1] 31 (0,0)) (by (with_reducible repeat (first|refine blk_drewN ?_ _|refine blk_drew ?_|refine blk_alloc ?_ _));exact BK115.out)):gb115≠gb116));have n6_:=aK (Ne.symm n5_.out);clear BK115;clear HB;have BK115:=n0_;have HB:=n1_;have BK116:=n2_;have GW116:=n3_;have GE116:=n4_;have NB115_116:=n5_;have NB116_115:=n6_;clear n0_ n1_ n2_ n3_ n4_ n5_ n6_;clear hb hbox hg)|((with_reducible refine gate_dst (N:=5) rfl ?_);refine box_event ?hg (N:=5) ?hd (cs:=#[.int .i64 a2_0,.int .i64 a2_1]) (t:=31) ?hr ?_;(case hd=>rfl);(case hg=>rfl);(case hr=>first|(go_simp;done)|(go_simp;rfl));intro gb117 hg w7 hbox hb;have n0_:=aK (blk_below (g:=gb115) (o:=.cells #[.int .i64 a0_0,.int .i64 a0_1] 31 (0,0)) (by (with_reducible repeat (first|refine blk_drewN ?_ _|refine blk_drew ?_|refine blk_alloc ?_ _));exact BK115.out) hb);have n1_:=aK (blk_below (g:=gb116) (o:=.cells #[.int .i64 a1_0,.int .i64 a1_1] 31 (0,0)) (by (with_reducible repeat (first|refine blk_drewN ?_ _|refine blk_drew ?_|refine blk_alloc ?_ _));exact BK116.out) hb);have n2_:=aK (below_step (by repeat (first|(with_reducible first|exact HB.out|apply below_alloc|apply pw_below_drewN|apply below_drew1|refine below_set ?_ GE115.out|refine below_set ?_ GE116.out)|exact HB.out)) hb);have n3_:=aK (hbox);have n4_:=aK ((by rw [hg];exact (below_size (by repeat (first|(with_reducible first|exact HB.out|apply below_alloc|apply pw_below_drewN|apply below_drew1|refine below_set ?_ GE115.out|refine below_set ?_ GE116.out)|exact HB.out))):w.heap.size≤gb117));have n5_:=n4_;have n6_:=aK ((by rw [hg];exact Nat.ne_of_lt (blk_lt (g:=gb115) (o:=.cells #[.int .i64 a0_0,.int .i64 a0_1] 31 (0,0)) (by (with_reducible repeat (first|refine blk_drewN ?_ _|refine blk_drew ?_|refine blk_alloc ?_ _));exact BK115.out)):gb115≠gb117));have n7_:=aK (Ne.symm n6_.out);have n8_:=aK ((by rw [hg];exact Nat.ne_of_lt (blk_lt (g:=gb116) (o:=.cells #[.int .i64 a1_0,.int .i64 a1_1] 31 (0,0)) (by (with_reducible repeat (first|refine blk_drewN ?_ _|refine blk_drew ?_|refine blk_alloc ?_ _));exact BK116.out)):gb116≠gb117));have n9_:=aK (Ne.symm n8_.out);clear BK115;clear BK116;clear HB;have BK115:=n0_;have BK116:=n1_;have HB:=n2_;have BK117:=n3_;have GW117:=n4_;have GE117:=n5_;have NB115_117:=n6_;have NB117_115:=n7_;have NB116_117:=n8_;have NB117_116:=n9_;clear n0_ n1_ n2_ n3_ n4_ n5_ n6_ n7_ n8_ n9_;clear hb hbox hg;have hnb8:=NB116_115.out;have hnc8:=NB115_116.out;have hnb9:=NB116_117.out;have hnc9:=NB117_116.out;have hcz10_0:w7.cell? ⟨gb116,0,none⟩=some (.int .i64 a1_0):=(blk_cell BK116.out 0).trans rfl;have hcz10_1:w7.cell? ⟨gb116,1,none⟩=some (.int .i64 a1_1):=(blk_cell BK116.out 1).trans rfl;have hfz10_0:=blk_frozen BK116.out 0;have hfz10_1:=blk_frozen BK116.out 1;have hnb11:=NB115_117.out;have hnc11:=NB117_115.out;have hcz12_0:w7.cell? ⟨gb115,0,none⟩=some (.int .i64 a0_0):=(blk_cell BK115.out 0).trans rfl;have hcz12_1:w7.cell? ⟨gb115,1,none⟩=some (.int .i64 a0_1):=(blk_cell BK115.out 1).trans rfl;have hfz12_0:=blk_frozen BK115.out 0;have hfz12_1:=blk_frozen BK115.out 1;have hcz13_0:w7.cell? ⟨gb117,0,none⟩=some (.int .i64 a2_0):=(blk_cell BK117.out 0).trans rfl;have hcz13_1:w7.cell? ⟨gb117,1,none⟩=some (.int .i64 a2_1):=(blk_cell BK117.out 1).trans rfl;have hfz13_0:=blk_frozen BK117.out 0;have hfz13_1:=blk_frozen BK117.out 1)|((with_reducible refine gate_callee (f:=39) rfl ?_);refine goesL_ (some 29) rfl rfl Try.func39 (by kernel_rfl) rfl #[.int .i64 (wrap64 ((wrap64 (a1_0-a0_0))*(wrap64 (a2_1-a0_1)))),.int .i64 (wrap64 ((wrap64 (a1_1-a0_1))*(wrap64 (a2_0-a0_0))))] rfl (by (try simp only [List.map_toArray,List.map_cons,List.map_nil]);first|done|rfl|(simp only [List.length_drop,List.length_take];rfl)) ?_;(with_reducible refine (cmp_Compare_int.calls (wrap64 ((wrap64 (a1_0-a0_0))*(wrap64 (a2_1-a0_1)))) (wrap64 ((wrap64 (a1_1-a0_1))*(wrap64 (a2_0-a0_0)))) t118 _ A4.out).mono ?_);rintro e w' ⟨rfl,⟨nd,rfl⟩⟩;refine ⟨_,rfl,?_⟩))
 go_ret
 exact ⟨by first|rfl|(simp [errW_none,errW_some] <;> rfl)|(simp [*,errW_none,errW_some] <;> rfl),by repeat (first|(with_reducible first|exact HB.out|apply below_alloc|apply pw_below_drewN|apply below_drew1|refine below_set ?_ GE115.out|refine below_set ?_ GE116.out|refine below_set ?_ GE117.out)|exact HB.out)⟩
end Go.Proofs.Ytckjlckhjcbddaa.PH3
