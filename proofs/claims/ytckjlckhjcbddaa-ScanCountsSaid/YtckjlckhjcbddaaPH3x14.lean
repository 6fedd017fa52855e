import Derived.Test.YtckjlckhjcbddaaPH3x0
import Derived.Test.YtckjlckhjcbddaaPH3x2
import Derived.Test.YtckjlckhjcbddaaPH3x4
import Derived.Test.YtckjlckhjcbddaaPH3x5
import Derived.Test.YtckjlckhjcbddaaPH3x9
import Derived.Test.YtckjlckhjcbddaaPH3x10
import Derived.Test.YtckjlckhjcbddaaPH3x11
import Derived.Test.YtckjlckhjcbddaaPH3x12
import Derived.Test.YtckjlckhjcbddaaPH3x13
namespace Go.Proofs.Ytckjlckhjcbddaa.PH3
open Go.RowKit Go.Proofs.YtckjlckhjcbddaaW.PrintWords Go.Proofs.YtckjlckhjcbddaaW.PrintLast Go.Proofs.YtckjlckhjcbddaaW.PrintMore
attribute [local go_sem] max2_int min2_int max_two min_two max_three min_three max_four min_four
set_option linter.unusedVariables false
set_option linter.unusedSimpArgs false

attribute [local go_sem high] eqA36
theorem pts_flat : ∀ l : List S31, PtsAt (l.flatMap fun p => [Value.int .i64 p.f0, .int .i64 p.f1]).toArray l
  | []=>fun j x hj=>by simp at hj
  | p::l=>fun j x hj=>by
    match j,hj with
    | 0, hj => obtain rfl : p = x := by simpa using hj
               exact ⟨rfl,rfl⟩
    | j+1,hj =>
      have h:=pts_flat l j x (by simpa using hj)
      simp only [List.getElem?_toArray] at h ⊢
      rw [show (j+1)*2=j*2+1+1 by omega]
      exact h
theorem lit_C (W:World) (l:List S31) (hl:l.length≤9223372036854775807):Kd.C k31 (W.alloc (.cells (l.flatMap fun p=>[Value.int .i64 p.f0,.int .i64 p.f1]).toArray 31)) (some ⟨W.heap.size,0,none⟩) l.length l :=
  (Kd.R_reads' (row_of_pts (base:=W.heap.size) (ok:=fun _=>True) (cap:=l.length) (d:=l) (blk_new W _) (pts_flat l) (Nat.le_refl _) trivial (Nat.le_refl _) hl (by simp;clear hl;induction l with|nil=>rfl|cons p l ih=>simp at *;omega))).2.2
theorem oneP_row {W:World} {A:Option Addr} {c:Nat} {l:List S31} (h:Kd.C k31 W A l.length l) (hc:l.length≤c) (e:TypeId):Kd.C (Kd.slice 31 k31) (W.alloc (.cells #[.slice A l.length c] e)) (some ⟨W.heap.size,0,none⟩) ([l]:List (List S31)).length [l]:=by
  refine ⟨rfl,by simp,fun _=>⟨⟨W.heap.size,0,none⟩,rfl,fun j p hj=>?_⟩⟩
  cases j with
  | zero =>
    obtain rfl:l=p:=by simpa using hj
    refine ⟨[.slice A l.length c],rfl,⟨A,c,rfl,hc,Kd.C_alloc h _⟩,fun i u hi=>?_⟩
    cases i with
    | zero =>
      obtain rfl:Value.slice A l.length c=u:=by simpa using hi
      simp [Kd.slice,Addr.add]
    | succ i=>simp at hi
  | succ j=>simp at hj
theorem rowsP {W : World} (L : List (Option Addr × Nat × List S31)) (h : ∀ x ∈ L, Kd.C k31 W x.1 x.2.2.length x.2.2 ∧ x.2.2.length ≤ x.2.1) (hl : L.length ≤ 1000) (e : TypeId) :
    Kd.C (Kd.slice 31 k31) (W.alloc (.cells (L.map fun x=>Value.slice x.1 x.2.2.length x.2.1).toArray e)) (some ⟨W.heap.size,0,none⟩) (L.map fun x=>x.2.2).length (L.map fun x=>x.2.2):=by
  refine ⟨rfl,by simp;omega,fun _=>⟨⟨W.heap.size,0,none⟩,rfl,fun j p hj=>?_⟩⟩
  rw [List.getElem?_map] at hj
  obtain ⟨x,hx,rfl⟩:=Option.map_eq_some_iff.mp hj
  have hm:=h x (List.mem_of_getElem? hx)
  refine ⟨[.slice x.1 x.2.2.length x.2.1],rfl,⟨x.1,x.2.1,rfl,hm.2,Kd.C_alloc hm.1 _⟩,fun i u hi=>?_⟩
  cases i with
  | zero =>
    obtain rfl:Value.slice x.1 x.2.2.length x.2.1=u:=by simpa using hi
    cases j with
    | zero=>simp [Kd.slice,Addr.add,hx]
    | succ j=>simp [Kd.slice,Addr.add,hx]
  | succ i=>simp at hi
theorem twoP_row {W : World} {A0 A1 : Option Addr} {c0 c1 : Nat} {l0 l1 : List S31} (h0 : Kd.C k31 W A0 l0.length l0) (hc0 : l0.length ≤ c0) (h1 : Kd.C k31 W A1 l1.length l1) (hc1 : l1.length ≤ c1) (e : TypeId) :
    Kd.C (Kd.slice 31 k31) (W.alloc (.cells #[.slice A0 l0.length c0,.slice A1 l1.length c1] e)) (some ⟨W.heap.size,0,none⟩) ([l0,l1]:List (List S31)).length [l0,l1] :=
  rowsP [(A0,c0,l0),(A1,c1,l1)] (by simp;exact ⟨⟨h0,hc0⟩,h1,hc1⟩) (by simp) e
theorem threeP_row {W : World} {A0 A1 A2 : Option Addr} {c0 c1 c2 : Nat} {l0 l1 l2 : List S31} (h0 : Kd.C k31 W A0 l0.length l0) (hc0 : l0.length ≤ c0) (h1 : Kd.C k31 W A1 l1.length l1) (hc1 : l1.length ≤ c1) (h2 : Kd.C k31 W A2 l2.length l2) (hc2 : l2.length ≤ c2) (e : TypeId) :
    Kd.C (Kd.slice 31 k31) (W.alloc (.cells #[.slice A0 l0.length c0,.slice A1 l1.length c1,.slice A2 l2.length c2] e)) (some ⟨W.heap.size,0,none⟩) ([l0,l1,l2]:List (List S31)).length [l0,l1,l2] :=
  rowsP [(A0,c0,l0),(A1,c1,l1),(A2,c2,l2)] (by simp;exact ⟨⟨h0,hc0⟩,⟨h1,hc1⟩,h2,hc2⟩) (by simp) e
theorem blk_new2 (V:World) (o o':Obj):((V.alloc o).alloc o').heap[V.heap.size+1]?=some o':=by have h:=blk_new (V.alloc o) o';rw [World.size_alloc] at h;exact h
theorem blk_new3 (V:World) (o o' o'':Obj):(((V.alloc o).alloc o').alloc o'').heap[V.heap.size+1+1]?=some o'':=by have h:=blk_new2 (V.alloc o) o' o'';rw [World.size_alloc] at h;exact h
theorem C_of_blk {W:World} {g:Nat} {cur:Array Value} {t:TypeId} {l:List S31} (h:W.heap[g]?=some (.cells cur t (0,0))) (hp:PtsAt cur l) (hl:l.length≤1000):Kd.C k31 W (some ⟨g,0,none⟩) l.length l:=by
  refine ⟨rfl,by omega,fun _=>⟨⟨g,0,none⟩,rfl,fun j p hj=>⟨[.int .i64 p.f0,.int .i64 p.f1],rfl,k31_mk W p,fun i u hi=>?_⟩⟩⟩
  obtain ⟨q0,q1⟩:=hp j p hj
  have hc:=blk_cell h (j*2+i)
  have e:(⟨g,0,none⟩:Addr).add (j*Kd.sz k31+i)=⟨g,j*2+i,none⟩:=by
    show (⟨g,0,none⟩:Addr).add (j*2+i)=_
    simp only [Addr.add]
    split
    · rename_i h0;rw [show j*2+i=0 by simpa using h0]
    · simp
  rw [e,hc]
  match i,hi with
  | 0, hi => obtain rfl : Value.int .i64 p.f0 = u := by simpa using hi
             exact q0
  | 1, hi => obtain rfl : Value.int .i64 p.f1 = u := by simpa using hi
             exact q1
  | i+2,hi=>simp at hi
def PrsAt (cur:Array Value) (l:List S36):Prop:=∀ (j:Nat) (x:S36),l[j]?=some x→cur[j*2]?=some (.int .i64 x.f0)∧cur[j*2+1]?=some (.int .i64 x.f1)
theorem prs_flat : ∀ l : List S36, PrsAt (l.flatMap fun p => [Value.int .i64 p.f0, .int .i64 p.f1]).toArray l
  | []=>fun j x hj=>by simp at hj
  | p::l=>fun j x hj=>by
    match j,hj with
    | 0, hj => obtain rfl : p = x := by simpa using hj
               exact ⟨rfl,rfl⟩
    | j+1,hj =>
      have h:=prs_flat l j x (by simpa using hj)
      simp only [List.getElem?_toArray] at h ⊢
      rw [show (j+1)*2=j*2+1+1 by omega]
      exact h
theorem C_of_blkX {W:World} {g:Nat} {cur:Array Value} {t:TypeId} {l:List S36} (h:W.heap[g]?=some (.cells cur t (0,0))) (hp:PrsAt cur l) (hl:l.length≤1000):Kd.C k36 W (some ⟨g,0,none⟩) l.length l:=by
  refine ⟨rfl,by omega,fun _=>⟨⟨g,0,none⟩,rfl,fun j p hj=>⟨[.int .i64 p.f0,.int .i64 p.f1],rfl,k36_mk W p,fun i u hi=>?_⟩⟩⟩
  obtain ⟨q0,q1⟩:=hp j p hj
  have hc:=blk_cell h (j*2+i)
  have e:(⟨g,0,none⟩:Addr).add (j*Kd.sz k36+i)=⟨g,j*2+i,none⟩:=by
    show (⟨g,0,none⟩:Addr).add (j*2+i)=_
    simp only [Addr.add]
    split
    · rename_i h0;rw [show j*2+i=0 by simpa using h0]
    · simp
  rw [e,hc]
  match i,hi with
  | 0, hi => obtain rfl : Value.int .i64 p.f0 = u := by simpa using hi
             exact q0
  | 1, hi => obtain rfl : Value.int .i64 p.f1 = u := by simpa using hi
             exact q1
  | i+2,hi=>simp at hi
theorem lit_X (W:World) (l:List S36) (hl:l.length≤1000):Kd.C k36 (W.alloc (.cells (l.flatMap fun p=>[Value.int .i64 p.f0,.int .i64 p.f1]).toArray 36)) (some ⟨W.heap.size,0,none⟩) l.length l:=C_of_blkX (blk_new W _) (prs_flat l) hl
def fleuronlaw19_awake.f:Option Bool:=some true
set_option maxHeartbeats 8000000 in
set_option maxRecDepth 100000 in
theorem fleuronlaw19_awake.calls (r:Bool) (w:World) (h:fleuronlaw19_awake.f=some r):Calls Try.prog 4 #[] w fun e w'=>e = .returned (.bool r)∧Below w.heap.size w w':=by
  obtain rfl:true=r:=Option.some.inj h
  clear h
  have hu:=Try.underlying31
  have hu2:=Try.underlying36
  have HB:=aK (Below.refl w.heap.size w)
  go_enter Try.func4,Try.ntmps4
  have NB_:=aK (below_step HB.out (below_alloc (Below.refl _ _) (.cells #[.int .i64 0,.int .i64 0,.int .i64 262144,.int .i64 0,.int .i64 262144,.int .i64 262144,.int .i64 0,.int .i64 262144] 31)))
  clear HB
  have HB:=NB_
  clear NB_
  have h_:=lit_C w [⟨0,0⟩,⟨262144,0⟩,⟨262144,262144⟩,⟨0,262144⟩] (by decide)
  try simp only [World.size_alloc] at h_
  have Hl:=aK h_
  clear h_
  have h_:=oneP_row (W:=(w.alloc (.cells #[.int .i64 0,.int .i64 0,.int .i64 262144,.int .i64 0,.int .i64 262144,.int .i64 262144,.int .i64 0,.int .i64 262144] 31))) Hl.out (Nat.le_refl _) 32
  try simp only [World.size_alloc] at h_
  have Hll:=aK h_
  clear h_
  have Nl:=aK (Kd.C_below Hl.out (below_alloc (Below.refl _ _) (.cells #[.slice (some ⟨w.heap.size,0,none⟩) 4 4] 32)))
  clear Hl
  have Hl:=Nl
  clear Nl
  have NB_:=aK (below_step HB.out (below_alloc (Below.refl _ _) (.cells #[.slice (some ⟨w.heap.size,0,none⟩) 4 4] 32)))
  clear HB
  have HB:=NB_
  clear NB_
  clear Hl
  go_wp2_with fail
  refine (scan_Row.calls 60 _ 1 [[⟨0,0⟩,⟨262144,0⟩,⟨262144,262144⟩,⟨0,262144⟩]] false 8 1 [⟨0,4⟩] 0 _ Hll.out (Nat.le_refl _) (by kernel_rfl)).mono ?_
  rintro e W1 ⟨va,rfl,hr,hb⟩
  have Nll:=aK (Kd.C_below Hll.out hb)
  clear Hll
  have Hll:=Nll
  clear Nll
  have NB_:=aK (below_step HB.out hb)
  clear HB
  have HB:=NB_
  clear NB_
  obtain ⟨Aa,ca,rfl,hca,hC⟩:=Kd.R_reads hr
  have Ha:=aK hC
  clear hC hr hb
  have Nll:=aK (Kd.C_below Hll.out (below_alloc (Below.refl _ _) (.cells #[.int .i64 0,.int .i64 0] 31)))
  clear Hll
  have Hll:=Nll
  clear Nll
  have Na:=aK (Kd.C_below Ha.out (below_alloc (Below.refl _ _) (.cells #[.int .i64 0,.int .i64 0] 31)))
  clear Ha
  have Ha:=Na
  clear Na
  have NB_:=aK (below_step HB.out (below_alloc (Below.refl _ _) (.cells #[.int .i64 0,.int .i64 0] 31)))
  clear HB
  have HB:=NB_
  clear NB_
  have h_:=lit_C W1 [⟨0,0⟩] (by decide)
  try simp only [World.size_alloc] at h_
  have Hn:=aK h_
  clear h_
  have Nll:=aK (Kd.C_below Hll.out (below_alloc (Below.refl _ _) (.cells #[.int .i64 32768,.int .i64 32768,.int .i64 229376,.int .i64 32768] 31)))
  clear Hll
  have Hll:=Nll
  clear Nll
  have Na:=aK (Kd.C_below Ha.out (below_alloc (Below.refl _ _) (.cells #[.int .i64 32768,.int .i64 32768,.int .i64 229376,.int .i64 32768] 31)))
  clear Ha
  have Ha:=Na
  clear Na
  have Nn:=aK (Kd.C_below Hn.out (below_alloc (Below.refl _ _) (.cells #[.int .i64 32768,.int .i64 32768,.int .i64 229376,.int .i64 32768] 31)))
  clear Hn
  have Hn:=Nn
  clear Nn
  have NB_:=aK (below_step HB.out (below_alloc (Below.refl _ _) (.cells #[.int .i64 32768,.int .i64 32768,.int .i64 229376,.int .i64 32768] 31)))
  clear HB
  have HB:=NB_
  clear NB_
  have h_:=lit_C (W1.alloc (.cells #[.int .i64 0,.int .i64 0] 31)) [⟨32768,32768⟩,⟨229376,32768⟩] (by decide)
  try simp only [World.size_alloc] at h_
  have Hm:=aK h_
  clear h_
  go_wp2_with fail
  refine (scan_Pen.calls 60 _ 1 [⟨0,0⟩] _ 2 [⟨32768,32768⟩,⟨229376,32768⟩] 8 0 [⟨0,4⟩] 0 _ Hn.out (Nat.le_refl _) Hm.out (Nat.le_refl _) (by kernel_rfl)).mono ?_
  rintro e W2 ⟨vb,rfl,hr,hb⟩
  have Nll:=aK (Kd.C_below Hll.out hb)
  clear Hll
  have Hll:=Nll
  clear Nll
  have Na:=aK (Kd.C_below Ha.out hb)
  clear Ha
  have Ha:=Na
  clear Na
  have Nn:=aK (Kd.C_below Hn.out hb)
  clear Hn
  have Hn:=Nn
  clear Nn
  have Nm:=aK (Kd.C_below Hm.out hb)
  clear Hm
  have Hm:=Nm
  clear Nm
  have NB_:=aK (below_step HB.out hb)
  clear HB
  have HB:=NB_
  clear NB_
  obtain ⟨Ab,cb,rfl,hcb,hC⟩:=Kd.R_reads hr
  have Hb:=aK hC
  clear hC hr hb
  clear Hn
  clear Hm
  have Nll:=aK (Kd.C_below Hll.out (below_alloc (Below.refl _ _) (.cells #[.int .i64 0,.int .i64 2] 36)))
  clear Hll
  have Hll:=Nll
  clear Nll
  have Na:=aK (Kd.C_below Ha.out (below_alloc (Below.refl _ _) (.cells #[.int .i64 0,.int .i64 2] 36)))
  clear Ha
  have Ha:=Na
  clear Na
  have Nb:=aK (Kd.C_below Hb.out (below_alloc (Below.refl _ _) (.cells #[.int .i64 0,.int .i64 2] 36)))
  clear Hb
  have Hb:=Nb
  clear Nb
  have NB_:=aK (below_step HB.out (below_alloc (Below.refl _ _) (.cells #[.int .i64 0,.int .i64 2] 36)))
  clear HB
  have HB:=NB_
  clear NB_
  have h_:=lit_X W2 [⟨0,2⟩] (by decide)
  try simp only [World.size_alloc] at h_
  have Hn:=aK h_
  clear h_
  have Nll:=aK (Kd.C_below Hll.out (below_alloc (Below.refl _ _) (.cells #[.int .i64 2,.int .i64 3] 36)))
  clear Hll
  have Hll:=Nll
  clear Nll
  have Na:=aK (Kd.C_below Ha.out (below_alloc (Below.refl _ _) (.cells #[.int .i64 2,.int .i64 3] 36)))
  clear Ha
  have Ha:=Na
  clear Na
  have Nb:=aK (Kd.C_below Hb.out (below_alloc (Below.refl _ _) (.cells #[.int .i64 2,.int .i64 3] 36)))
  clear Hb
  have Hb:=Nb
  clear Nb
  have Nn:=aK (Kd.C_below Hn.out (below_alloc (Below.refl _ _) (.cells #[.int .i64 2,.int .i64 3] 36)))
  clear Hn
  have Hn:=Nn
  clear Nn
  have NB_:=aK (below_step HB.out (below_alloc (Below.refl _ _) (.cells #[.int .i64 2,.int .i64 3] 36)))
  clear HB
  have HB:=NB_
  clear NB_
  have h_:=lit_X (W2.alloc (.cells #[.int .i64 0,.int .i64 2] 36)) [⟨2,3⟩] (by decide)
  try simp only [World.size_alloc] at h_
  have Hm:=aK h_
  clear h_
  go_wp2_with fail
  refine (scan_Or.calls 300 _ 1 [⟨0,2⟩] _ 1 [⟨2,3⟩] [⟨0,3⟩] 0 _ Hn.out (Nat.le_refl _) Hm.out (Nat.le_refl _) (by kernel_rfl)).mono ?_
  rintro e W3 ⟨vc,rfl,hr,hb⟩
  have Nll:=aK (Kd.C_below Hll.out hb)
  clear Hll
  have Hll:=Nll
  clear Nll
  have Na:=aK (Kd.C_below Ha.out hb)
  clear Ha
  have Ha:=Na
  clear Na
  have Nb:=aK (Kd.C_below Hb.out hb)
  clear Hb
  have Hb:=Nb
  clear Nb
  have Nn:=aK (Kd.C_below Hn.out hb)
  clear Hn
  have Hn:=Nn
  clear Nn
  have Nm:=aK (Kd.C_below Hm.out hb)
  clear Hm
  have Hm:=Nm
  clear Nm
  have NB_:=aK (below_step HB.out hb)
  clear HB
  have HB:=NB_
  clear NB_
  obtain ⟨Ac,cc,rfl,hcc,hC⟩:=Kd.R_reads hr
  have Hc:=aK hC
  clear hC hr hb
  clear Hn
  clear Hm
  have Nll:=aK (Kd.C_below Hll.out (below_alloc (Below.refl _ _) (.cells #[.int .i64 0,.int .i64 2] 36)))
  clear Hll
  have Hll:=Nll
  clear Nll
  have Na:=aK (Kd.C_below Ha.out (below_alloc (Below.refl _ _) (.cells #[.int .i64 0,.int .i64 2] 36)))
  clear Ha
  have Ha:=Na
  clear Na
  have Nb:=aK (Kd.C_below Hb.out (below_alloc (Below.refl _ _) (.cells #[.int .i64 0,.int .i64 2] 36)))
  clear Hb
  have Hb:=Nb
  clear Nb
  have Nc:=aK (Kd.C_below Hc.out (below_alloc (Below.refl _ _) (.cells #[.int .i64 0,.int .i64 2] 36)))
  clear Hc
  have Hc:=Nc
  clear Nc
  have NB_:=aK (below_step HB.out (below_alloc (Below.refl _ _) (.cells #[.int .i64 0,.int .i64 2] 36)))
  clear HB
  have HB:=NB_
  clear NB_
  have h_:=lit_X W3 [⟨0,2⟩] (by decide)
  try simp only [World.size_alloc] at h_
  have Hn:=aK h_
  clear h_
  have Nll:=aK (Kd.C_below Hll.out (below_alloc (Below.refl _ _) (.cells #[.int .i64 1,.int .i64 3] 36)))
  clear Hll
  have Hll:=Nll
  clear Nll
  have Na:=aK (Kd.C_below Ha.out (below_alloc (Below.refl _ _) (.cells #[.int .i64 1,.int .i64 3] 36)))
  clear Ha
  have Ha:=Na
  clear Na
  have Nb:=aK (Kd.C_below Hb.out (below_alloc (Below.refl _ _) (.cells #[.int .i64 1,.int .i64 3] 36)))
  clear Hb
  have Hb:=Nb
  clear Nb
  have Nc:=aK (Kd.C_below Hc.out (below_alloc (Below.refl _ _) (.cells #[.int .i64 1,.int .i64 3] 36)))
  clear Hc
  have Hc:=Nc
  clear Nc
  have Nn:=aK (Kd.C_below Hn.out (below_alloc (Below.refl _ _) (.cells #[.int .i64 1,.int .i64 3] 36)))
  clear Hn
  have Hn:=Nn
  clear Nn
  have NB_:=aK (below_step HB.out (below_alloc (Below.refl _ _) (.cells #[.int .i64 1,.int .i64 3] 36)))
  clear HB
  have HB:=NB_
  clear NB_
  have h_:=lit_X (W3.alloc (.cells #[.int .i64 0,.int .i64 2] 36)) [⟨1,3⟩] (by decide)
  try simp only [World.size_alloc] at h_
  have Hm:=aK h_
  clear h_
  go_wp2_with fail
  refine (scan_And.calls 300 _ 1 [⟨0,2⟩] _ 1 [⟨1,3⟩] [⟨1,2⟩] 0 _ Hn.out (Nat.le_refl _) Hm.out (Nat.le_refl _) (by kernel_rfl)).mono ?_
  rintro e W4 ⟨vd,rfl,hr,hb⟩
  have Nll:=aK (Kd.C_below Hll.out hb)
  clear Hll
  have Hll:=Nll
  clear Nll
  have Na:=aK (Kd.C_below Ha.out hb)
  clear Ha
  have Ha:=Na
  clear Na
  have Nb:=aK (Kd.C_below Hb.out hb)
  clear Hb
  have Hb:=Nb
  clear Nb
  have Nc:=aK (Kd.C_below Hc.out hb)
  clear Hc
  have Hc:=Nc
  clear Nc
  have Nn:=aK (Kd.C_below Hn.out hb)
  clear Hn
  have Hn:=Nn
  clear Nn
  have Nm:=aK (Kd.C_below Hm.out hb)
  clear Hm
  have Hm:=Nm
  clear Nm
  have NB_:=aK (below_step HB.out hb)
  clear HB
  have HB:=NB_
  clear NB_
  obtain ⟨Ad,cd,rfl,hcd,hC⟩:=Kd.R_reads hr
  have Hd:=aK hC
  clear hC hr hb
  clear Hn
  clear Hm
  have Nll:=aK (Kd.C_below Hll.out (below_alloc (Below.refl _ _) (.cells #[.int .i64 0,.int .i64 4] 36)))
  clear Hll
  have Hll:=Nll
  clear Nll
  have Na:=aK (Kd.C_below Ha.out (below_alloc (Below.refl _ _) (.cells #[.int .i64 0,.int .i64 4] 36)))
  clear Ha
  have Ha:=Na
  clear Na
  have Nb:=aK (Kd.C_below Hb.out (below_alloc (Below.refl _ _) (.cells #[.int .i64 0,.int .i64 4] 36)))
  clear Hb
  have Hb:=Nb
  clear Nb
  have Nc:=aK (Kd.C_below Hc.out (below_alloc (Below.refl _ _) (.cells #[.int .i64 0,.int .i64 4] 36)))
  clear Hc
  have Hc:=Nc
  clear Nc
  have Nd:=aK (Kd.C_below Hd.out (below_alloc (Below.refl _ _) (.cells #[.int .i64 0,.int .i64 4] 36)))
  clear Hd
  have Hd:=Nd
  clear Nd
  have NB_:=aK (below_step HB.out (below_alloc (Below.refl _ _) (.cells #[.int .i64 0,.int .i64 4] 36)))
  clear HB
  have HB:=NB_
  clear NB_
  have h_:=lit_X W4 [⟨0,4⟩] (by decide)
  try simp only [World.size_alloc] at h_
  have Hn:=aK h_
  clear h_
  have Nll:=aK (Kd.C_below Hll.out (below_alloc (Below.refl _ _) (.cells #[.int .i64 1,.int .i64 2] 36)))
  clear Hll
  have Hll:=Nll
  clear Nll
  have Na:=aK (Kd.C_below Ha.out (below_alloc (Below.refl _ _) (.cells #[.int .i64 1,.int .i64 2] 36)))
  clear Ha
  have Ha:=Na
  clear Na
  have Nb:=aK (Kd.C_below Hb.out (below_alloc (Below.refl _ _) (.cells #[.int .i64 1,.int .i64 2] 36)))
  clear Hb
  have Hb:=Nb
  clear Nb
  have Nc:=aK (Kd.C_below Hc.out (below_alloc (Below.refl _ _) (.cells #[.int .i64 1,.int .i64 2] 36)))
  clear Hc
  have Hc:=Nc
  clear Nc
  have Nd:=aK (Kd.C_below Hd.out (below_alloc (Below.refl _ _) (.cells #[.int .i64 1,.int .i64 2] 36)))
  clear Hd
  have Hd:=Nd
  clear Nd
  have Nn:=aK (Kd.C_below Hn.out (below_alloc (Below.refl _ _) (.cells #[.int .i64 1,.int .i64 2] 36)))
  clear Hn
  have Hn:=Nn
  clear Nn
  have NB_:=aK (below_step HB.out (below_alloc (Below.refl _ _) (.cells #[.int .i64 1,.int .i64 2] 36)))
  clear HB
  have HB:=NB_
  clear NB_
  have h_:=lit_X (W4.alloc (.cells #[.int .i64 0,.int .i64 4] 36)) [⟨1,2⟩] (by decide)
  try simp only [World.size_alloc] at h_
  have Hm:=aK h_
  clear h_
  go_wp2_with fail
  refine (scan_Without.calls 300 _ 1 [⟨0,4⟩] _ 1 [⟨1,2⟩] [⟨0,1⟩,⟨2,4⟩] 0 _ Hn.out (Nat.le_refl _) Hm.out (Nat.le_refl _) (by kernel_rfl)).mono ?_
  rintro e W5 ⟨vi,rfl,hr,hb⟩
  have Nll:=aK (Kd.C_below Hll.out hb)
  clear Hll
  have Hll:=Nll
  clear Nll
  have Na:=aK (Kd.C_below Ha.out hb)
  clear Ha
  have Ha:=Na
  clear Na
  have Nb:=aK (Kd.C_below Hb.out hb)
  clear Hb
  have Hb:=Nb
  clear Nb
  have Nc:=aK (Kd.C_below Hc.out hb)
  clear Hc
  have Hc:=Nc
  clear Nc
  have Nd:=aK (Kd.C_below Hd.out hb)
  clear Hd
  have Hd:=Nd
  clear Nd
  have Nn:=aK (Kd.C_below Hn.out hb)
  clear Hn
  have Hn:=Nn
  clear Nn
  have Nm:=aK (Kd.C_below Hm.out hb)
  clear Hm
  have Hm:=Nm
  clear Nm
  have NB_:=aK (below_step HB.out hb)
  clear HB
  have HB:=NB_
  clear NB_
  obtain ⟨Ai,ci,rfl,hci,hC⟩:=Kd.R_reads hr
  have Hi:=aK hC
  clear hC hr hb
  clear Hn
  clear Hm
  have Nll:=aK (Kd.C_below Hll.out (below_alloc (Below.refl _ _) (.cells #[.int .i64 0,.int .i64 2,.int .i64 5,.int .i64 6] 36)))
  clear Hll
  have Hll:=Nll
  clear Nll
  have Na:=aK (Kd.C_below Ha.out (below_alloc (Below.refl _ _) (.cells #[.int .i64 0,.int .i64 2,.int .i64 5,.int .i64 6] 36)))
  clear Ha
  have Ha:=Na
  clear Na
  have Nb:=aK (Kd.C_below Hb.out (below_alloc (Below.refl _ _) (.cells #[.int .i64 0,.int .i64 2,.int .i64 5,.int .i64 6] 36)))
  clear Hb
  have Hb:=Nb
  clear Nb
  have Nc:=aK (Kd.C_below Hc.out (below_alloc (Below.refl _ _) (.cells #[.int .i64 0,.int .i64 2,.int .i64 5,.int .i64 6] 36)))
  clear Hc
  have Hc:=Nc
  clear Nc
  have Nd:=aK (Kd.C_below Hd.out (below_alloc (Below.refl _ _) (.cells #[.int .i64 0,.int .i64 2,.int .i64 5,.int .i64 6] 36)))
  clear Hd
  have Hd:=Nd
  clear Nd
  have Ni:=aK (Kd.C_below Hi.out (below_alloc (Below.refl _ _) (.cells #[.int .i64 0,.int .i64 2,.int .i64 5,.int .i64 6] 36)))
  clear Hi
  have Hi:=Ni
  clear Ni
  have NB_:=aK (below_step HB.out (below_alloc (Below.refl _ _) (.cells #[.int .i64 0,.int .i64 2,.int .i64 5,.int .i64 6] 36)))
  clear HB
  have HB:=NB_
  clear NB_
  have h_:=lit_X W5 [⟨0,2⟩,⟨5,6⟩] (by decide)
  try simp only [World.size_alloc] at h_
  have Hn:=aK h_
  clear h_
  go_wp2_with fail
  refine (scan_Count.calls 60 _ 2 [⟨0,2⟩,⟨5,6⟩] 3 0 _ Hn.out (Nat.le_refl _) (by kernel_rfl)).mono ?_
  rintro e W6 ⟨rfl,hb⟩
  have Nll:=aK (Kd.C_below Hll.out hb)
  clear Hll
  have Hll:=Nll
  clear Nll
  have Na:=aK (Kd.C_below Ha.out hb)
  clear Ha
  have Ha:=Na
  clear Na
  have Nb:=aK (Kd.C_below Hb.out hb)
  clear Hb
  have Hb:=Nb
  clear Nb
  have Nc:=aK (Kd.C_below Hc.out hb)
  clear Hc
  have Hc:=Nc
  clear Nc
  have Nd:=aK (Kd.C_below Hd.out hb)
  clear Hd
  have Hd:=Nd
  clear Nd
  have Ni:=aK (Kd.C_below Hi.out hb)
  clear Hi
  have Hi:=Ni
  clear Ni
  have Nn:=aK (Kd.C_below Hn.out hb)
  clear Hn
  have Hn:=Nn
  clear Nn
  have NB_:=aK (below_step HB.out hb)
  clear HB
  have HB:=NB_
  clear NB_
  clear hb
  clear Hn
  go_wp2_with fail
  refine (scan_Rows.calls 60 _ 1 [[⟨0,0⟩,⟨262144,0⟩,⟨262144,262144⟩,⟨0,262144⟩]] 0 3 0 _ Hll.out (Nat.le_refl _) (by kernel_rfl)).mono ?_
  rintro e W7 ⟨rfl,hb⟩
  have Nll:=aK (Kd.C_below Hll.out hb)
  clear Hll
  have Hll:=Nll
  clear Nll
  have Na:=aK (Kd.C_below Ha.out hb)
  clear Ha
  have Ha:=Na
  clear Na
  have Nb:=aK (Kd.C_below Hb.out hb)
  clear Hb
  have Hb:=Nb
  clear Nb
  have Nc:=aK (Kd.C_below Hc.out hb)
  clear Hc
  have Hc:=Nc
  clear Nc
  have Nd:=aK (Kd.C_below Hd.out hb)
  clear Hd
  have Hd:=Nd
  clear Nd
  have Ni:=aK (Kd.C_below Hi.out hb)
  clear Hi
  have Hi:=Ni
  clear Ni
  have NB_:=aK (below_step HB.out hb)
  clear HB
  have HB:=NB_
  clear NB_
  clear hb
  clear Hll
  have Na:=aK (Kd.C_below Ha.out (below_alloc (Below.refl _ _) (.cells #[.int .i64 0,.int .i64 3] 36)))
  clear Ha
  have Ha:=Na
  clear Na
  have Nb:=aK (Kd.C_below Hb.out (below_alloc (Below.refl _ _) (.cells #[.int .i64 0,.int .i64 3] 36)))
  clear Hb
  have Hb:=Nb
  clear Nb
  have Nc:=aK (Kd.C_below Hc.out (below_alloc (Below.refl _ _) (.cells #[.int .i64 0,.int .i64 3] 36)))
  clear Hc
  have Hc:=Nc
  clear Nc
  have Nd:=aK (Kd.C_below Hd.out (below_alloc (Below.refl _ _) (.cells #[.int .i64 0,.int .i64 3] 36)))
  clear Hd
  have Hd:=Nd
  clear Nd
  have Ni:=aK (Kd.C_below Hi.out (below_alloc (Below.refl _ _) (.cells #[.int .i64 0,.int .i64 3] 36)))
  clear Hi
  have Hi:=Ni
  clear Ni
  have NB_:=aK (below_step HB.out (below_alloc (Below.refl _ _) (.cells #[.int .i64 0,.int .i64 3] 36)))
  clear HB
  have HB:=NB_
  clear NB_
  have h_:=blk_new W7 (.cells #[.int .i64 0,.int .i64 3] 36)
  have Bo:=aK h_
  clear h_
  have Na:=aK (Kd.C_below Ha.out (below_alloc (Below.refl _ _) (.cells #[.int .i64 0,.int .i64 2] 36)))
  clear Ha
  have Ha:=Na
  clear Na
  have Nb:=aK (Kd.C_below Hb.out (below_alloc (Below.refl _ _) (.cells #[.int .i64 0,.int .i64 2] 36)))
  clear Hb
  have Hb:=Nb
  clear Nb
  have Nc:=aK (Kd.C_below Hc.out (below_alloc (Below.refl _ _) (.cells #[.int .i64 0,.int .i64 2] 36)))
  clear Hc
  have Hc:=Nc
  clear Nc
  have Nd:=aK (Kd.C_below Hd.out (below_alloc (Below.refl _ _) (.cells #[.int .i64 0,.int .i64 2] 36)))
  clear Hd
  have Hd:=Nd
  clear Nd
  have Ni:=aK (Kd.C_below Hi.out (below_alloc (Below.refl _ _) (.cells #[.int .i64 0,.int .i64 2] 36)))
  clear Hi
  have Hi:=Ni
  clear Ni
  have No:=aK (blk_below Bo.out (below_alloc (Below.refl _ _) (.cells #[.int .i64 0,.int .i64 2] 36)))
  clear Bo
  have Bo:=No
  clear No
  have NB_:=aK (below_step HB.out (below_alloc (Below.refl _ _) (.cells #[.int .i64 0,.int .i64 2] 36)))
  clear HB
  have HB:=NB_
  clear NB_
  have h_:=lit_X (W7.alloc (.cells #[.int .i64 0,.int .i64 3] 36)) [⟨0,2⟩] (by decide)
  try simp only [World.size_alloc] at h_
  have Hn:=aK h_
  clear h_
  go_wp2_with fail
  refine (scan_Has.calls 60 _ 1 [⟨0,2⟩] 1 true 0 _ Hn.out (Nat.le_refl _) (by kernel_rfl)).mono ?_
  rintro e W8 ⟨rfl,hb⟩
  have Na:=aK (Kd.C_below Ha.out hb)
  clear Ha
  have Ha:=Na
  clear Na
  have Nb:=aK (Kd.C_below Hb.out hb)
  clear Hb
  have Hb:=Nb
  clear Nb
  have Nc:=aK (Kd.C_below Hc.out hb)
  clear Hc
  have Hc:=Nc
  clear Nc
  have Nd:=aK (Kd.C_below Hd.out hb)
  clear Hd
  have Hd:=Nd
  clear Nd
  have Ni:=aK (Kd.C_below Hi.out hb)
  clear Hi
  have Hi:=Ni
  clear Ni
  have Nn:=aK (Kd.C_below Hn.out hb)
  clear Hn
  have Hn:=Nn
  clear Nn
  have No:=aK (blk_below Bo.out hb)
  clear Bo
  have Bo:=No
  clear No
  have NB_:=aK (below_step HB.out hb)
  clear HB
  have HB:=NB_
  clear NB_
  clear hb
  clear Hn
  have Na:=aK (Kd.C_below Ha.out (below_alloc (Below.refl _ _) (.cells #[.int .i64 0,.int .i64 2,.int .i64 2,.int .i64 3] 36)))
  clear Ha
  have Ha:=Na
  clear Na
  have Nb:=aK (Kd.C_below Hb.out (below_alloc (Below.refl _ _) (.cells #[.int .i64 0,.int .i64 2,.int .i64 2,.int .i64 3] 36)))
  clear Hb
  have Hb:=Nb
  clear Nb
  have Nc:=aK (Kd.C_below Hc.out (below_alloc (Below.refl _ _) (.cells #[.int .i64 0,.int .i64 2,.int .i64 2,.int .i64 3] 36)))
  clear Hc
  have Hc:=Nc
  clear Nc
  have Nd:=aK (Kd.C_below Hd.out (below_alloc (Below.refl _ _) (.cells #[.int .i64 0,.int .i64 2,.int .i64 2,.int .i64 3] 36)))
  clear Hd
  have Hd:=Nd
  clear Nd
  have Ni:=aK (Kd.C_below Hi.out (below_alloc (Below.refl _ _) (.cells #[.int .i64 0,.int .i64 2,.int .i64 2,.int .i64 3] 36)))
  clear Hi
  have Hi:=Ni
  clear Ni
  have No:=aK (blk_below Bo.out (below_alloc (Below.refl _ _) (.cells #[.int .i64 0,.int .i64 2,.int .i64 2,.int .i64 3] 36)))
  clear Bo
  have Bo:=No
  clear No
  have NB_:=aK (below_step HB.out (below_alloc (Below.refl _ _) (.cells #[.int .i64 0,.int .i64 2,.int .i64 2,.int .i64 3] 36)))
  clear HB
  have HB:=NB_
  clear NB_
  have h_:=lit_X W8 [⟨0,2⟩,⟨2,3⟩] (by decide)
  try simp only [World.size_alloc] at h_
  have Hn:=aK h_
  clear h_
  go_wp2_with fail
  refine (scan_Count.calls 60 _ 2 [⟨0,2⟩,⟨2,3⟩] 0 2 _ Hn.out (Nat.le_refl _) (by kernel_rfl)).mono ?_
  rintro e W9 ⟨rfl,hb⟩
  have Na:=aK (Kd.C_below Ha.out hb)
  clear Ha
  have Ha:=Na
  clear Na
  have Nb:=aK (Kd.C_below Hb.out hb)
  clear Hb
  have Hb:=Nb
  clear Nb
  have Nc:=aK (Kd.C_below Hc.out hb)
  clear Hc
  have Hc:=Nc
  clear Nc
  have Nd:=aK (Kd.C_below Hd.out hb)
  clear Hd
  have Hd:=Nd
  clear Nd
  have Ni:=aK (Kd.C_below Hi.out hb)
  clear Hi
  have Hi:=Ni
  clear Ni
  have Nn:=aK (Kd.C_below Hn.out hb)
  clear Hn
  have Hn:=Nn
  clear Nn
  have No:=aK (blk_below Bo.out hb)
  clear Bo
  have Bo:=No
  clear No
  have NB_:=aK (below_step HB.out hb)
  clear HB
  have HB:=NB_
  clear NB_
  clear hb
  clear Hn
  have Na:=aK (Kd.C_below Ha.out (below_alloc (Below.refl _ _) (.cells #[.int .i64 0,.int .i64 4] 36)))
  clear Ha
  have Ha:=Na
  clear Na
  have Nb:=aK (Kd.C_below Hb.out (below_alloc (Below.refl _ _) (.cells #[.int .i64 0,.int .i64 4] 36)))
  clear Hb
  have Hb:=Nb
  clear Nb
  have Nc:=aK (Kd.C_below Hc.out (below_alloc (Below.refl _ _) (.cells #[.int .i64 0,.int .i64 4] 36)))
  clear Hc
  have Hc:=Nc
  clear Nc
  have Nd:=aK (Kd.C_below Hd.out (below_alloc (Below.refl _ _) (.cells #[.int .i64 0,.int .i64 4] 36)))
  clear Hd
  have Hd:=Nd
  clear Nd
  have Ni:=aK (Kd.C_below Hi.out (below_alloc (Below.refl _ _) (.cells #[.int .i64 0,.int .i64 4] 36)))
  clear Hi
  have Hi:=Ni
  clear Ni
  have No:=aK (blk_below Bo.out (below_alloc (Below.refl _ _) (.cells #[.int .i64 0,.int .i64 4] 36)))
  clear Bo
  have Bo:=No
  clear No
  have NB_:=aK (below_step HB.out (below_alloc (Below.refl _ _) (.cells #[.int .i64 0,.int .i64 4] 36)))
  clear HB
  have HB:=NB_
  clear NB_
  have h_:=lit_X W9 [⟨0,4⟩] (by decide)
  try simp only [World.size_alloc] at h_
  have Hz:=aK h_
  clear h_
  go_wp2_with fail
  refine (fleuronref19_Same.calls 9 _ _ [⟨0,4⟩] _ _ [⟨0,4⟩] true _ Ha.out hca Hz.out (Nat.le_refl _) (by kernel_rfl)).mono ?_
  rintro e W10 ⟨rfl,hb⟩
  replace hb:=hb.below
  have Na:=aK (Kd.C_below Ha.out hb)
  clear Ha
  have Ha:=Na
  clear Na
  have Nb:=aK (Kd.C_below Hb.out hb)
  clear Hb
  have Hb:=Nb
  clear Nb
  have Nc:=aK (Kd.C_below Hc.out hb)
  clear Hc
  have Hc:=Nc
  clear Nc
  have Nd:=aK (Kd.C_below Hd.out hb)
  clear Hd
  have Hd:=Nd
  clear Nd
  have Ni:=aK (Kd.C_below Hi.out hb)
  clear Hi
  have Hi:=Ni
  clear Ni
  have Nz:=aK (Kd.C_below Hz.out hb)
  clear Hz
  have Hz:=Nz
  clear Nz
  have No:=aK (blk_below Bo.out hb)
  clear Bo
  have Bo:=No
  clear No
  have NB_:=aK (below_step HB.out hb)
  clear HB
  have HB:=NB_
  clear NB_
  clear hb
  clear Hz
  clear Ha
  have Nb:=aK (Kd.C_below Hb.out (below_alloc (Below.refl _ _) (.cells #[.int .i64 0,.int .i64 4] 36)))
  clear Hb
  have Hb:=Nb
  clear Nb
  have Nc:=aK (Kd.C_below Hc.out (below_alloc (Below.refl _ _) (.cells #[.int .i64 0,.int .i64 4] 36)))
  clear Hc
  have Hc:=Nc
  clear Nc
  have Nd:=aK (Kd.C_below Hd.out (below_alloc (Below.refl _ _) (.cells #[.int .i64 0,.int .i64 4] 36)))
  clear Hd
  have Hd:=Nd
  clear Nd
  have Ni:=aK (Kd.C_below Hi.out (below_alloc (Below.refl _ _) (.cells #[.int .i64 0,.int .i64 4] 36)))
  clear Hi
  have Hi:=Ni
  clear Ni
  have No:=aK (blk_below Bo.out (below_alloc (Below.refl _ _) (.cells #[.int .i64 0,.int .i64 4] 36)))
  clear Bo
  have Bo:=No
  clear No
  have NB_:=aK (below_step HB.out (below_alloc (Below.refl _ _) (.cells #[.int .i64 0,.int .i64 4] 36)))
  clear HB
  have HB:=NB_
  clear NB_
  have h_:=lit_X W10 [⟨0,4⟩] (by decide)
  try simp only [World.size_alloc] at h_
  have Hz:=aK h_
  clear h_
  go_wp2_with fail
  refine (fleuronref19_Same.calls 9 _ _ [⟨0,4⟩] _ _ [⟨0,4⟩] true _ Hb.out hcb Hz.out (Nat.le_refl _) (by kernel_rfl)).mono ?_
  rintro e W11 ⟨rfl,hb⟩
  replace hb:=hb.below
  have Nb:=aK (Kd.C_below Hb.out hb)
  clear Hb
  have Hb:=Nb
  clear Nb
  have Nc:=aK (Kd.C_below Hc.out hb)
  clear Hc
  have Hc:=Nc
  clear Nc
  have Nd:=aK (Kd.C_below Hd.out hb)
  clear Hd
  have Hd:=Nd
  clear Nd
  have Ni:=aK (Kd.C_below Hi.out hb)
  clear Hi
  have Hi:=Ni
  clear Ni
  have Nz:=aK (Kd.C_below Hz.out hb)
  clear Hz
  have Hz:=Nz
  clear Nz
  have No:=aK (blk_below Bo.out hb)
  clear Bo
  have Bo:=No
  clear No
  have NB_:=aK (below_step HB.out hb)
  clear HB
  have HB:=NB_
  clear NB_
  clear hb
  clear Hz
  clear Hb
  have Nc:=aK (Kd.C_below Hc.out (below_alloc (Below.refl _ _) (.cells #[.int .i64 0,.int .i64 3] 36)))
  clear Hc
  have Hc:=Nc
  clear Nc
  have Nd:=aK (Kd.C_below Hd.out (below_alloc (Below.refl _ _) (.cells #[.int .i64 0,.int .i64 3] 36)))
  clear Hd
  have Hd:=Nd
  clear Nd
  have Ni:=aK (Kd.C_below Hi.out (below_alloc (Below.refl _ _) (.cells #[.int .i64 0,.int .i64 3] 36)))
  clear Hi
  have Hi:=Ni
  clear Ni
  have No:=aK (blk_below Bo.out (below_alloc (Below.refl _ _) (.cells #[.int .i64 0,.int .i64 3] 36)))
  clear Bo
  have Bo:=No
  clear No
  have NB_:=aK (below_step HB.out (below_alloc (Below.refl _ _) (.cells #[.int .i64 0,.int .i64 3] 36)))
  clear HB
  have HB:=NB_
  clear NB_
  have h_:=lit_X W11 [⟨0,3⟩] (by decide)
  try simp only [World.size_alloc] at h_
  have Hz:=aK h_
  clear h_
  go_wp2_with fail
  refine (fleuronref19_Same.calls 9 _ _ [⟨0,3⟩] _ _ [⟨0,3⟩] true _ Hc.out hcc Hz.out (Nat.le_refl _) (by kernel_rfl)).mono ?_
  rintro e W12 ⟨rfl,hb⟩
  replace hb:=hb.below
  have Nc:=aK (Kd.C_below Hc.out hb)
  clear Hc
  have Hc:=Nc
  clear Nc
  have Nd:=aK (Kd.C_below Hd.out hb)
  clear Hd
  have Hd:=Nd
  clear Nd
  have Ni:=aK (Kd.C_below Hi.out hb)
  clear Hi
  have Hi:=Ni
  clear Ni
  have Nz:=aK (Kd.C_below Hz.out hb)
  clear Hz
  have Hz:=Nz
  clear Nz
  have No:=aK (blk_below Bo.out hb)
  clear Bo
  have Bo:=No
  clear No
  have NB_:=aK (below_step HB.out hb)
  clear HB
  have HB:=NB_
  clear NB_
  clear hb
  clear Hz
  clear Hc
  have Nd:=aK (Kd.C_below Hd.out (below_alloc (Below.refl _ _) (.cells #[.int .i64 1,.int .i64 2] 36)))
  clear Hd
  have Hd:=Nd
  clear Nd
  have Ni:=aK (Kd.C_below Hi.out (below_alloc (Below.refl _ _) (.cells #[.int .i64 1,.int .i64 2] 36)))
  clear Hi
  have Hi:=Ni
  clear Ni
  have No:=aK (blk_below Bo.out (below_alloc (Below.refl _ _) (.cells #[.int .i64 1,.int .i64 2] 36)))
  clear Bo
  have Bo:=No
  clear No
  have NB_:=aK (below_step HB.out (below_alloc (Below.refl _ _) (.cells #[.int .i64 1,.int .i64 2] 36)))
  clear HB
  have HB:=NB_
  clear NB_
  have h_:=lit_X W12 [⟨1,2⟩] (by decide)
  try simp only [World.size_alloc] at h_
  have Hz:=aK h_
  clear h_
  go_wp2_with fail
  refine (fleuronref19_Same.calls 9 _ _ [⟨1,2⟩] _ _ [⟨1,2⟩] true _ Hd.out hcd Hz.out (Nat.le_refl _) (by kernel_rfl)).mono ?_
  rintro e W13 ⟨rfl,hb⟩
  replace hb:=hb.below
  have Nd:=aK (Kd.C_below Hd.out hb)
  clear Hd
  have Hd:=Nd
  clear Nd
  have Ni:=aK (Kd.C_below Hi.out hb)
  clear Hi
  have Hi:=Ni
  clear Ni
  have Nz:=aK (Kd.C_below Hz.out hb)
  clear Hz
  have Hz:=Nz
  clear Nz
  have No:=aK (blk_below Bo.out hb)
  clear Bo
  have Bo:=No
  clear No
  have NB_:=aK (below_step HB.out hb)
  clear HB
  have HB:=NB_
  clear NB_
  clear hb
  clear Hz
  clear Hd
  have Ni:=aK (Kd.C_below Hi.out (below_alloc (Below.refl _ _) (.cells #[.int .i64 0,.int .i64 1,.int .i64 2,.int .i64 4] 36)))
  clear Hi
  have Hi:=Ni
  clear Ni
  have No:=aK (blk_below Bo.out (below_alloc (Below.refl _ _) (.cells #[.int .i64 0,.int .i64 1,.int .i64 2,.int .i64 4] 36)))
  clear Bo
  have Bo:=No
  clear No
  have NB_:=aK (below_step HB.out (below_alloc (Below.refl _ _) (.cells #[.int .i64 0,.int .i64 1,.int .i64 2,.int .i64 4] 36)))
  clear HB
  have HB:=NB_
  clear NB_
  have h_:=lit_X W13 [⟨0,1⟩,⟨2,4⟩] (by decide)
  try simp only [World.size_alloc] at h_
  have Hz:=aK h_
  clear h_
  go_wp2_with fail
  refine (fleuronref19_Same.calls 9 _ _ [⟨0,1⟩,⟨2,4⟩] _ _ [⟨0,1⟩,⟨2,4⟩] true _ Hi.out hci Hz.out (Nat.le_refl _) (by kernel_rfl)).mono ?_
  rintro e W14 ⟨rfl,hb⟩
  replace hb:=hb.below
  have Ni:=aK (Kd.C_below Hi.out hb)
  clear Hi
  have Hi:=Ni
  clear Ni
  have Nz:=aK (Kd.C_below Hz.out hb)
  clear Hz
  have Hz:=Nz
  clear Nz
  have No:=aK (blk_below Bo.out hb)
  clear Bo
  have Bo:=No
  clear No
  have NB_:=aK (below_step HB.out hb)
  clear HB
  have HB:=NB_
  clear NB_
  clear hb
  clear Hz
  clear Hi
  have po0:=(blk_cell Bo.out 0).trans rfl
  have po1:=(blk_cell Bo.out 1).trans rfl
  go_wp2
  go_ret
  exact ⟨rfl,HB.out⟩

end Go.Proofs.Ytckjlckhjcbddaa.PH3
