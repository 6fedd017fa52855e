import Derived.Test.YtoemkemmiikhlaaGreatPF4x0
import Derived.Test.YtoemkemmiikhlaaGreatPF4x3
import Derived.Test.YtoemkemmiikhlaaGreatPF4x7
import Derived.Test.YtoemkemmiikhlaaGreatPF4x10
import Derived.Test.YtoemkemmiikhlaaGreatPF4x17
namespace Go.Proofs.YtoemkemmiikhlaaGreat.PF4
open Go.RowKit Go.Proofs.YtoemkemmiikhlaaGreatW.PrintWords Go.Proofs.YtoemkemmiikhlaaGreatW.PrintLast Go.Proofs.YtoemkemmiikhlaaGreatW.PrintMore
attribute [local go_sem] max2_int min2_int max_two min_two max_three min_three max_four min_four
set_option linter.unusedVariables false
set_option linter.unusedSimpArgs false
theorem cut_same {P : Program} (t e : TypeId) (kh km : IntKind) {i : TypeInfo} (ht : P.underlying t = some (.slice e)) (hi : P.info? e = some i) (A : Option Addr) (n c : Nat) (j : Int) (h0 : 0 ≤ j) (hm : j ≤ n) (hc : n ≤ c) :
  ∀ W:World,(Instr.slice t (.slice A n c) none (some (.int kh j)) (some (.int km j))).run P W = .ok (.slice A j.toNat j.toNat) W:=by
 intro W
 have hel:P.elem t=e:=by simp [Program.elem,ht]
 have hu:P.underlying t=some (.slice (P.elem t)):=by rw [hel];exact ht
 have ha:(A.map fun x=>x.add 0)=A:=by cases A <;> simp [Addr.add]
 rw [run_slice_hm W t A n c hu kh km j j h0 (by omega) (by omega),hel]
 simp [sizeOf,typeInfo,hi,sliced,Result.andThen,ha]
def insG {α : Type} (key : α → Int) (x : α) : List α → List α
 | []=>[x]
 | y::l=>if key y<key x then y::insG key x l else x::y::l
def twG {α : Type} (key : α → Int) (x : α) : List α → Bool
 | []=>false
 | y::l=>if key y<key x then twG key x l else key y == key x
theorem insG_at {α : Type} (key : α → Int) (x : α) : ∀ (l : List α) (k : Nat), k ≤ l.length → (∀ j (h : j < l.length), j < k → key l[j] < key x) → (∀ h : k < l.length, ¬ key l[k] < key x) → insG key x l = l.take k ++ ([x] ++ l.drop k)
 | [],k,hk,_,_=>by simp [insG]
 | y::l,0,_,_,h2=>by rw [insG,if_neg (show ¬ key y<key x from h2 (by simp))];rfl
 | y::l,k+1,hk,h1,h2=>by
  rw [insG,if_pos (show key y<key x from h1 0 (by simp) (by omega)),insG_at key x l k (by simpa using hk) (fun j h hj=>h1 (j+1) (by simpa using h) (by omega)) (fun h=>h2 (by simpa using h))]
  rfl
theorem twG_in {α : Type} (key : α → Int) (x : α) : ∀ (l : List α) (k : Nat) (hk : k < l.length), (∀ j (h : j < l.length), j < k → key l[j] < key x) → ¬ key l[k] < key x → twG key x l = (key l[k] == key x)
 | y::l,0,_,_,h2=>by rw [twG,if_neg (show ¬ key y<key x from h2)];rfl
 | y::l,k+1,hk,h1,h2=>by
  rw [twG,if_pos (show key y<key x from h1 0 (by simp) (by omega)),twG_in key x l k (by simpa using hk) (fun j h hj=>h1 (j+1) (by simpa using h) (by omega)) h2]
  rfl
theorem twG_out {α : Type} (key : α → Int) (x : α) : ∀ (l : List α), (∀ j (h : j < l.length), key l[j] < key x) → twG key x l = false
 | [],_=>rfl
 | y::l,h1=>by
  rw [twG,if_pos (show key y<key x from h1 0 (by simp)),twG_out key x l (fun j h=>h1 (j+1) (by simpa using h))]
def ofG {α:Type} (key:α→Int) (l:List α):List α×Bool:=l.foldl (fun s x=>(insG key x s.1,s.2 || twG key x s.1)) ([],false)
theorem ofG_next {α:Type} (key:α→Int) (l:List α) (i:Nat) (h:i<l.length):ofG key (l.take (i+1))=(insG key l[i] (ofG key (l.take i)).1,(ofG key (l.take i)).2 || twG key l[i] (ofG key (l.take i)).1):=by
 unfold ofG
 rw [List.take_succ_eq_append_getElem h,List.foldl_append]
 rfl
theorem insG_len {α : Type} (key : α → Int) (x : α) : ∀ l : List α, (insG key x l).length = l.length + 1
 | []=>rfl
 | y::l=>by
  rw [insG]
  split
  ·rw [List.length_cons,insG_len key x l];rfl
  ·rfl
theorem ofG_len {α : Type} (key : α → Int) (l : List α) : ∀ i, i ≤ l.length → (ofG key (l.take i)).1.length = i
 | 0,_=>rfl
 | i+1,h=>by rw [ofG_next key l i (by omega),insG_len,ofG_len key l i (by omega)]
def keyC (x:S50):Int:=x.f0
def keyR (x:S45):Int:=wrap64 (wrap64 (256*x.f0)+x.f1)
def ofR (sz:Int) (gs:List S50) (ls:List S45):Int×List S50×List S45×Int :=
 if sizeB sz && (gs.all okC && ls.all okR) then (if decide (gs.length≤256) && decide (ls.length≤500) then (if (ofG keyC gs).2 || (ofG keyR ls).2 then (0,[],[],14) else (sz,(ofG keyC gs).1,(ofG keyR ls).1,0)) else (0,[],[],3)) else (0,[],[],2)
structure OfI {α:Type} (d:Kd α) (T:TypeId) (w W:World) (b6 b9 b13:Nat) (size:Int) (cs:List S50) (rs:List S45) (V:Array Value) (A9:Option Addr) (xs:List α) (cc:Array Value):Prop where
 ms:MetS w W b6 b9 size cs rs
 bm:W.heap[b9]?=some (.cells V 25 (0,0))
 rc:Kd.C d W A9 xs.length xs
 bc:W.heap[b13]?=some (.cells cc T (0,0))
theorem OfI.ofBelow {α:Type} {d:Kd α} {T:TypeId} {w W W':World} {b6 b9 b13:Nat} {size:Int} {cs:List S50} {rs:List S45} {V:Array Value} {A9:Option Addr} {xs:List α} {cc:Array Value} (h:OfI d T w W b6 b9 b13 size cs rs V A9 xs cc) (hb:Below W.heap.size W W'):OfI d T w W' b6 b9 b13 size cs rs V A9 xs cc :=
 ⟨h.ms.ofBelow hb,blk_below h.bm hb,Kd.C_below h.rc hb,blk_below h.bc hb⟩
theorem ite_addr (c k:Nat) (s:Nat) (A:Option Addr):(if c=((k:Int)).toNat then A else A.map (·.add (((k:Int)).toNat*s)))=(if c=k then A else A.map (·.add (k*s))):=by simp
set_option maxHeartbeats 16000000 in
set_option maxRecDepth 100000 in
theorem refOf_calls (size : Int) (A1 : Option Addr) (c1 : Nat) (gs : List GlyphV) (A2 : Option Addr) (c2 : Nat) (ls : List S45) (w : World)
  (hr1:Kd.C kGl w A1 gs.length gs) (hr2:Kd.C k45 w A2 ls.length ls) (hl1:gs.length≤1000000) (hl2:ls.length≤1000000) :
  Calls Tryz.prog 19 #[.int .i64 size,.slice A1 gs.length c1,.slice A2 ls.length c2] w fun e w'=>∃ v1 v2,e = .returned (.tuple #[.agg #[.int .i64 (ofR size (gs.map glC) ls).1,v1,v2],.int .i64 (ofR size (gs.map glC) ls).2.2.2])∧Kd.R k50 50 w' w.heap.size (fun _=>True) v1 (ofR size (gs.map glC) ls).2.1∧Kd.R k45 45 w' w.heap.size (fun _=>True) v2 (ofR size (gs.map glC) ls).2.2.1∧Below w.heap.size w w':=by
 have hu:=Tryz.underlying25
 have hu50:=Tryz.underlying50
 have hu45:=Tryz.underlying45
 have hu42:=Tryz.underlying42
 have HR1:=aK hr1
 have HR2:=aK hr2
 have HL1:=aK hl1
 have HL2:=aK hl2
 obtain ⟨cs0,hcs0⟩ : ∃ l,l=gs.map glC:=⟨_,rfl⟩
 rw [← hcs0]
 have HCS:=aK hcs0
 have HCL:Aside0 (cs0.length=gs.length):=⟨by rw [hcs0,List.length_map]⟩
 obtain ⟨r,hr⟩ : ∃ r,r=ofR size cs0 ls:=⟨_,rfl⟩
 rw [← hr]
 have HF:=aK hr
 obtain ⟨b6,hb6⟩ : ∃ b,b=w.heap.size:=⟨_,rfl⟩
 have hx:=blk_new w (.cells #[.int .i64 0,.slice none 0 0,.slice none 0 0] 25)
 rw [← hb6] at hx
 have I0:Aside0 (ResS w (w.alloc (.cells #[.int .i64 0,.slice none 0 0,.slice none 0 0] 25)) b6):=⟨⟨below_alloc (Below.refl _ _) _,by omega,hx⟩⟩
 have HBE:=aK hb6
 have HS:=aK (fun V=>fleuronref27_Size.calls size (sizeB size) V (sizeW_is size))
 clear hr1 hr2 hl1 hl2 hcs0 hr hb6 hx
 go_enter Tryz.func19,Tryz.ntmps19
 go_upto_region 1 with (fail)
 rw [← HBE.out]
 generalize w.alloc (.cells #[.int .i64 0,.slice none 0 0,.slice none 0 0] 25)=V at *
 clear HBE
 go_wp2_with fail
 refine (HS.out _).mono ?_
 rintro e W1 ⟨rfl,⟨n1,rfl⟩⟩
 have I1:=aK (I0.out.ofBelow (pw_below_drewN (Below.refl V.heap.size V) n1))
 generalize V.drewN n1=W1 at *
 clear I0 HS
 obtain ⟨b9,hb9⟩ : ∃ b,b=W1.heap.size:=⟨_,rfl⟩
 have J0:Aside0 (MetS w (W1.alloc (.cells #[.int .i64 size,.slice none 0 0,.slice none 0 0] 25)) b6 b9 size [] []):=⟨by
  have hx:=blk_new W1 (.cells #[.int .i64 size,.slice none 0 0,.slice none 0 0] 25)
  rw [← hb9] at hx
  exact ⟨I1.out.ofBelow (below_alloc (Below.refl _ _) _),by rw [hb9];exact I1.out.below.size,by have:=blk_lt I1.out.res;omega,_,_,hx,Kd.R_nil _ _ _ _ _,Kd.R_nil _ _ _ _ _⟩⟩
 have HBE9:=aK hb9
 clear hb9 I1
 go_upto_region 4 with (fail)
 rw [← HBE9.out]
 generalize W1.alloc (.cells #[.int .i64 size,.slice none 0 0,.slice none 0 0] 25)=W2 at *
 clear HBE9
 obtain ⟨sb,hsb⟩ : ∃ b,b=sizeB size:=⟨_,rfl⟩
 rw [← hsb]
 have HSB:=aK hsb
 clear hsb
 go_upto_block 0 with (fail)
 go_cut [8,10] (fun s8 s10 wc=>∃ (b t:Bool),s8 = .bool b∧s10 = .bool t∧Aside0 (b=(sb && cs0.all okC))∧Aside0 (t=(ofG keyC cs0).2)∧Aside0 (MetS w wc b6 b9 size (ofG keyC cs0).1 []))
 case first =>
  go_wp2_with fail
  go_loopg [8,10,24] gs.length (fun gg s8 s10 s wr=>∃ (i:Nat) (b t:Bool),i≤gs.length∧gs.length-i≤gg∧s8 = .bool b∧s10 = .bool t∧s = .int .i64 i∧Aside0 (b=(sb && (cs0.take i).all okC))∧Aside0 (t=(false || (ofG keyC (cs0.take i)).2))∧Aside0 (MetS w wr b6 b9 size (ofG keyC (cs0.take i)).1 []))
  case atStart=>exact ⟨0,sb,false,by omega,by omega,rfl,rfl,rfl,⟨by simp⟩,⟨by simp [ofG]⟩,J0⟩
  case round =>
   clear J0
   obtain ⟨i,b,t,hi,hg,rfl,rfl,rfl,HBB,HTT,J⟩:=hrel
   by_cases hlt:i<gs.length
   ·have hlti:(i:Int)<(gs.length:Int):=by omega
    have hi0:(0:Int)≤(i:Int):=by omega
    obtain ⟨ad,e1,hx0,hx1,hx2,hx3,hx4⟩:=at_Gl HR1.out (i:Int) hi0 hlti
    simp only [Int.toNat_natCast] at hx0 hx1 hx2 hx3 hx4
    replace hx0:=(J.out.base.below.cell (World.block_lt_of_cell? w _ hx0)).trans hx0
    replace hx1:=(J.out.base.below.cell (World.block_lt_of_cell? w _ hx1)).trans hx1
    replace hx2:=(J.out.base.below.cell (World.block_lt_of_cell? w _ hx2)).trans hx2
    replace hx3:=(J.out.base.below.cell (World.block_lt_of_cell? w _ hx3)).trans hx3
    replace hx4:=(J.out.base.below.cell (World.block_lt_of_cell? w _ hx4)).trans hx4
    have hlt2:i<cs0.length:=by rw [HCL.out];exact hlt
    have hel:glC (gs.getD i zGl)=cs0[i]:=by
     have h:=HCS.out
     subst h
     rw [List.getElem_map,List.getD_eq_getElem?_getD,List.getElem?_eq_getElem hlt]
     rfl
    have HA:=aK (all_next okC cs0 i hlt2)
    have HN:=aK (ofG_next keyC cs0 i hlt2)
    have HXL:=aK (ofG_len keyC cs0 i (by omega))
    rw [← hel] at HA HN
    have HSTEP:=aK (show wrap64 ((i:Int)+1)=((i+1:Nat):Int) by have:=HL1.out;unfold wrap64;omega)
    generalize gs.getD i zGl=g at *
    obtain ⟨x0,x1,x2,x3,pa,pl,pc⟩:=g
    simp only at hx0 hx1 hx2 hx3 hx4
    obtain ⟨x,hxe⟩ : ∃ x:S50,x=⟨x0,x1,x2,x3⟩:=⟨_,rfl⟩
    have hgl:glC ⟨x0,x1,x2,x3,pa,pl,pc⟩=x:=hxe.symm
    rw [hgl] at HA HN
    obtain ⟨rfl,rfl,rfl,rfl⟩:x.f0=x0∧x.f1=x1∧x.f2=x2∧x.f3=x3:=by rw [hxe];exact ⟨rfl,rfl,rfl,rfl⟩
    obtain ⟨xs,hxs⟩ : ∃ l,l=(ofG keyC (cs0.take i)).1:=⟨_,rfl⟩
    rw [← hxs] at HN HXL J
    have HXS:=aK hxs
    have hb:=(below_alloc (below_alloc (Below.refl wr.heap.size wr) (.cells #[.int .i64 x.f0,.int .i64 x.f1,.int .i64 x.f2,.int .i64 x.f3,.slice pa pl pc] 42)) (.cells #[.int .i64 x.f0,.int .i64 x.f1,.int .i64 x.f2,.int .i64 x.f3] 50))
    have B0:=aK hb
    have X0:=blk_new (wr.alloc (.cells #[.int .i64 x.f0,.int .i64 x.f1,.int .i64 x.f2,.int .i64 x.f3,.slice pa pl pc] 42)) (.cells #[.int .i64 x.f0,.int .i64 x.f1,.int .i64 x.f2,.int .i64 x.f3] 50)
    try simp only [World.size_alloc] at X0
    obtain ⟨b13,hb13⟩ : ∃ b,b=wr.heap.size+1:=⟨_,rfl⟩
    rw [← hb13] at X0
    have HBE:=aK hb13
    obtain ⟨v1,v2,hm,ho1,ho2⟩:=J.out.met
    obtain ⟨A9,c9,rfl⟩:=Kd.R_slice ho1
    have hq:=Kd.R_reads' ho1
    have HC9:=aK hq.2.1
    have I:Aside0 (OfI k50 50 w ((wr.alloc (.cells #[.int .i64 x.f0,.int .i64 x.f1,.int .i64 x.f2,.int .i64 x.f3,.slice pa pl pc] 42)).alloc (.cells #[.int .i64 x.f0,.int .i64 x.f1,.int .i64 x.f2,.int .i64 x.f3] 50)) b6 b9 b13 size xs [] #[.int .i64 size,.slice A9 xs.length c9,v2] A9 xs #[.int .i64 x.f0,.int .i64 x.f1,.int .i64 x.f2,.int .i64 x.f3]):=⟨(OfI.mk (J.out.ofBelow hb) (blk_below hm hb) (Kd.C_below hq.2.2 hb) X0)⟩
    subst e1
    clear hxs hb X0 hb13 hm ho1 ho2 hq J hel hgl hxe hlt2
    go_upto_region 8 with (fail)
    rw [← HBE.out]
    generalize (wr.alloc (.cells #[.int .i64 x.f0,.int .i64 x.f1,.int .i64 x.f2,.int .i64 x.f3,.slice pa pl pc] 42)).alloc (.cells #[.int .i64 x.f0,.int .i64 x.f1,.int .i64 x.f2,.int .i64 x.f3] 50)=V0 at *
    clear hx0 hx1 hx2 hx3 hx4 HBE
    go_cut [8] (fun s8 wc=>s8 = .bool (b && okC x)∧Aside0 (Below wr.heap.size wr wc)∧Aside0 (OfI k50 50 w wc b6 b9 b13 size xs [] #[.int .i64 size,.slice A9 xs.length c9,v2] A9 xs #[.int .i64 x.f0,.int .i64 x.f1,.int .i64 x.f2,.int .i64 x.f3]))
    case first =>
     have y0:=(blk_cell I.out.bc 0).trans rfl
     have y1:=(blk_cell I.out.bc 1).trans rfl
     have y2:=(blk_cell I.out.bc 2).trans rfl
     have y3:=(blk_cell I.out.bc 3).trans rfl
     cases b with
     | false =>
      go_wp2
      go_meet
      case rel=>exact ⟨rfl,B0,I⟩
     | true =>
      go_wp2_with fail
      refine (fleuronref27_char.calls x.f0 x.f1 x.f2 x.f3 (okC x) _ (charW_is x)).mono ?_
      rintro e Wa ⟨rfl,hb⟩
      have Ba:=aK (below_step B0.out hb)
      have Ia:=aK (I.out.ofBelow hb)
      clear hb y0 y1 y2 y3
      go_wp2
      go_meet
      case rel=>exact ⟨rfl,Ba,Ia⟩
    case rest =>
    obtain ⟨rfl,B1,I1⟩:=hcut
    clear B0 I
    go_upto_block 2 with (fail)
    go_cut [14] (fun s wd=>∃ k:Nat,s = .int .i64 k∧Aside0 (k≤xs.length∧(∀ j (h:j<xs.length),j<k→keyC xs[j]<keyC x)∧∀ h:k<xs.length,¬ keyC xs[k]<keyC x)∧Aside0 (Below wr.heap.size wr wd)∧Aside0 (OfI k50 50 w wd b6 b9 b13 size xs [] #[.int .i64 size,.slice A9 xs.length c9,v2] A9 xs #[.int .i64 x.f0,.int .i64 x.f1,.int .i64 x.f2,.int .i64 x.f3]))
    case first =>
     go_wp2_with fail
     obtain ⟨wo,hwo⟩ : ∃ wo:World,wo=wr:=⟨_,rfl⟩
     subst hwo
     go_loopg [14] xs.length (fun gg s wr=>∃ k:Nat,k≤xs.length∧xs.length-k≤gg∧s = .int .i64 k∧Aside0 (∀ j (h:j<xs.length),j<k→keyC xs[j]<keyC x)∧Aside0 (Below wo.heap.size wo wr)∧Aside0 (OfI k50 50 w wr b6 b9 b13 size xs [] #[.int .i64 size,.slice A9 xs.length c9,v2] A9 xs #[.int .i64 x.f0,.int .i64 x.f1,.int .i64 x.f2,.int .i64 x.f3]))
     case atStart=>exact ⟨0,by omega,by omega,rfl,⟨fun j h hj=>absurd hj (by omega)⟩,B1,I1⟩
     case round =>
      clear B1 I1
      obtain ⟨k,hk,hkg,rfl,HLT,BC,IC⟩:=hrel
      have P0:=aK ((blk_cell (blk_drew IC.out.bm) 1).trans rfl)
      have P1:=aK ((blk_cell (blk_drew IC.out.bc) 0).trans rfl)
      have P2:=aK ((blk_cell (blk_drew IC.out.bc) 1).trans rfl)
      have P3:=aK ((blk_cell (blk_drew IC.out.bc) 2).trans rfl)
      have P4:=aK ((blk_cell (blk_drew IC.out.bc) 3).trans rfl)
      have BD:=aK (below_drew1 BC.out)
      have ID:=aK (IC.out.ofBelow (below_drew1 (Below.refl _ _)))
      by_cases hkl:k<xs.length
      ·have hkli:(k:Int)<(xs.length:Int):=by omega
       have hk0:(0:Int)≤(k:Int):=by omega
       have hkb:decide ((k:Int)<(xs.length:Int))=true:=decide_eq_true hkli
       have hkb2:decide (k<xs.length)=true:=decide_eq_true hkl
       obtain ⟨ad9,e9,hy0,hy1,hy2,hy3⟩:=at_T50 ID.out.rc (k:Int) hk0 hkli
       simp only [Int.toNat_natCast] at hy0 hy1 hy2 hy3
       have hrd:rd_T50 xs (k:Int)=xs[k]:=by simp [rd_T50,List.getD_eq_getElem?_getD,hkl]
       have HY:=aK hrd.symm
       generalize rd_T50 xs (k:Int)=y at *
       have P5:=aK hy0
       have P6:=aK hy1
       have P7:=aK hy2
       have P8:=aK hy3
       subst e9
       have hsplit:(y.f0<x.f0∧decide (y.f0<x.f0)=true)∨(¬ y.f0<x.f0∧decide (y.f0<x.f0)=false):=by
        by_cases h:y.f0<x.f0
        ·exact .inl ⟨h,decide_eq_true h⟩
        ·exact .inr ⟨h,decide_eq_false h⟩
       clear hrd hy0 hy1 hy2 hy3 BC IC
       rcases hsplit with ⟨g1,g2⟩|⟨g1,g2⟩
       all_goals
        go_upto_region 10 with (fail)
        refine start_ (n:=16) (S:=fun w'=>w'.cell? ⟨b9,1,none⟩=some (.slice (some ad9) xs.length c9)∧w'.cell? ⟨b13,0,none⟩=some (.int .i64 x.f0)∧w'.cell? ⟨b13,1,none⟩=some (.int .i64 x.f1)∧w'.cell? ⟨b13,2,none⟩=some (.int .i64 x.f2)∧w'.cell? ⟨b13,3,none⟩=some (.int .i64 x.f3)∧w'.cell? (ad9.add (k*4))=some (.int .i64 y.f0)∧w'.cell? ⟨(ad9.add (k*4)).block,(ad9.add (k*4)).off+1,none⟩=some (.int .i64 y.f1)∧w'.cell? ⟨(ad9.add (k*4)).block,(ad9.add (k*4)).off+2,none⟩=some (.int .i64 y.f2)∧w'.cell? ⟨(ad9.add (k*4)).block,(ad9.add (k*4)).off+3,none⟩=some (.int .i64 y.f3)) (ds:=[]) #[false,false,false,false,false,false,false,false,false,false,false,false,false,false,false,false] (by kernel_rfl) rfl rfl ⟨P0.out,P1.out,P2.out,P3.out,P4.out,P5.out,P6.out,P7.out,P8.out⟩ (fun hHeld=>?_)
        refine pu 0 (some 42) ?_ rfl rfl (by kernel_rfl) (fun _ _ _ h=>h) (.inl ⟨by rfl,?_⟩) ?_ ?_ ?_;rotate_left;intro w';go_simp;with_reducible rfl;rotate_left;simp only [nS];rfl
        refine pu 1 (some 43) ?_ rfl rfl (by kernel_rfl) (fun _ _ _ h=>h) (.inl ⟨by rfl,?_⟩) ?_ ?_ ?_;rotate_left;intro w';go_simp;with_reducible rfl;rotate_left;simp only [nS];rfl
        refine tk 2 (some 44) ?_ rfl rfl (by kernel_rfl) (fun _ _ _ h=>h) (.inl ⟨by rfl,?_⟩) hHeld ?_ ?_ ?_;rotate_left;rintro w' ⟨s0,s1,s2,s3,s4,s5,s6,s7,s8⟩;go_simp;with_reducible rfl;rotate_left;simp only [nS];rfl
        refine pu 3 (some 45) ?_ rfl rfl (by kernel_rfl) (fun _ _ _ h=>h) (.inl ⟨by rfl,?_⟩) ?_ ?_ ?_;rotate_left;intro w';go_simp;with_reducible rfl;rotate_left;simp only [nS];rfl
        refine pu 4 (some 46) ?_ rfl rfl (by kernel_rfl) (fun _ _ _ h=>h) (.inl ⟨by rfl,?_⟩) ?_ ?_ ?_;rotate_left;intro w';go_simp;with_reducible rfl;rotate_left;simp only [nS];rfl
        refine pu 5 (some 47) ?_ rfl rfl (by kernel_rfl) (fun _ _ _ h=>h) (.inl ⟨by rfl,?_⟩) ?_ ?_ ?_;rotate_left;intro w';go_simp;with_reducible rfl;rotate_left;simp only [nS];rfl
        refine pu 6 (some 48) ?_ rfl rfl (by kernel_rfl) (fun _ _ _ h=>h) (.inl ⟨by rfl,?_⟩) ?_ ?_ ?_;rotate_left;intro w';go_simp;with_reducible rfl;rotate_left;simp only [nS];rfl
        refine pu 8 (some 50) ?_ rfl rfl (by kernel_rfl) (fun _ _ _ h=>h) (.inl ⟨by rfl,?_⟩) ?_ ?_ ?_;rotate_left;intro w';go_simp;with_reducible rfl;rotate_left;simp only [nS];rfl
        refine pu 12 (some 54) ?_ rfl rfl (by kernel_rfl) (fun _ _ _ h=>h) (.inl ⟨by rfl,?_⟩) ?_ ?_ ?_;rotate_left;intro w';go_simp;with_reducible rfl;rotate_left;simp only [nS];rfl
        refine tk 7 (some 49) ?_ rfl rfl (by kernel_rfl) (fun _ _ _ h=>h) (.inl ⟨by rfl,?_⟩) hHeld ?_ ?_ ?_;rotate_left;rintro w' ⟨s0,s1,s2,s3,s4,s5,s6,s7,s8⟩;go_simp;with_reducible rfl;rotate_left;simp only [nS];rfl
        refine pu 9 (some 51) ?_ rfl rfl (by kernel_rfl) (fun _ _ _ h=>h) (.inl ⟨by rfl,?_⟩) ?_ ?_ ?_;rotate_left;intro w';go_simp;with_reducible rfl;rotate_left;simp only [nS];rfl
        refine pu 10 (some 52) ?_ rfl rfl (by kernel_rfl) (fun _ _ _ h=>h) (.inl ⟨by rfl,?_⟩) ?_ ?_ ?_;rotate_left;intro w';go_simp;with_reducible rfl;rotate_left;simp only [nS];rfl
        refine tk 11 (some 53) ?_ rfl rfl (by kernel_rfl) (fun _ _ _ h=>h) (.inl ⟨by rfl,?_⟩) hHeld ?_ ?_ ?_;rotate_left;rintro w' ⟨s0,s1,s2,s3,s4,s5,s6,s7,s8⟩;go_simp;with_reducible rfl;rotate_left;simp only [nS];rfl
        refine tk 13 (some 55) ?_ rfl rfl (by kernel_rfl) (fun _ _ _ h=>h) (.inl ⟨by rfl,?_⟩) hHeld ?_ ?_ ?_;rotate_left;rintro w' ⟨s0,s1,s2,s3,s4,s5,s6,s7,s8⟩;go_simp;with_reducible rfl;rotate_left;simp only [nS];rfl
        refine pu 14 (some 56) ?_ rfl rfl (by kernel_rfl) (fun _ _ _ h=>h) (.inl ⟨by rfl,?_⟩) ?_ ?_ ?_;rotate_left;intro w';go_simp;with_reducible rfl;rotate_left;simp only [nS];rfl
        refine pu 15 (some 57) ?_ rfl rfl (by kernel_rfl) (fun _ _ _ h=>h) (.inl ⟨by rfl,?_⟩) ?_ ?_ ?_;rotate_left;intro w';go_simp;with_reducible rfl;rotate_left;simp only [nS];rfl
        refine done_ (by kernel_rfl) ?_
       ·have HLT2:Aside0 (∀ j (h:j<xs.length),j<k+1→keyC xs[j]<keyC x):=⟨fun j h hj=>by
         rcases Nat.lt_or_ge j k with h3|h3
         ·exact HLT.out j h h3
         ·obtain rfl:j=k:=by omega
          rw [HY.out]
          exact g1⟩
        have HSK:=aK (show wrap64 ((k:Int)+1)=((k+1:Nat):Int) by have h1:=HXL.out;have h2:=HL1.out;unfold wrap64;omega)
        go_wp2
        go_roundg (xs.length-(k+1))
        case measure=>omega
        case rel=>exact ⟨k+1,by omega,by omega,by first|exact congrArg (Value.int .i64) HSK.out|go_num,HLT2,BD,ID⟩
       ·go_wp2
        go_meet
        case rel=>exact ⟨k,rfl,⟨hk,HLT.out,fun h=>by rw [HY.out];exact g1⟩,BD,ID⟩
      ·have hkli : ¬ (k:Int)<(xs.length:Int):=by omega
       have hkb:decide ((k:Int)<(xs.length:Int))=false:=decide_eq_false hkli
       have hkb2:decide (k<xs.length)=false:=decide_eq_false hkl
       clear BC IC
       go_upto_region 10 with (fail)
       refine start_ (n:=16) (S:=fun w'=>w'.cell? ⟨b9,1,none⟩=some (.slice A9 xs.length c9)∧w'.cell? ⟨b13,0,none⟩=some (.int .i64 x.f0)∧w'.cell? ⟨b13,1,none⟩=some (.int .i64 x.f1)∧w'.cell? ⟨b13,2,none⟩=some (.int .i64 x.f2)∧w'.cell? ⟨b13,3,none⟩=some (.int .i64 x.f3)) (ds:=[]) #[false,false,false,false,false,false,false,false,false,false,false,false,false,false,false,false] (by kernel_rfl) rfl rfl ⟨P0.out,P1.out,P2.out,P3.out,P4.out⟩ (fun hHeld=>?_)
       refine pu 0 (some 42) ?_ rfl rfl (by kernel_rfl) (fun _ _ _ h=>h) (.inl ⟨by rfl,?_⟩) ?_ ?_ ?_;rotate_left;intro w';go_simp;with_reducible rfl;rotate_left;simp only [nS];rfl
       refine pu 1 (some 43) ?_ rfl rfl (by kernel_rfl) (fun _ _ _ h=>h) (.inl ⟨by rfl,?_⟩) ?_ ?_ ?_;rotate_left;intro w';go_simp;with_reducible rfl;rotate_left;simp only [nS];rfl
       refine tk 2 (some 44) ?_ rfl rfl (by kernel_rfl) (fun _ _ _ h=>h) (.inl ⟨by rfl,?_⟩) hHeld ?_ ?_ ?_;rotate_left;rintro w' ⟨s0,s1,s2,s3,s4⟩;go_simp;with_reducible rfl;rotate_left;simp only [nS];rfl
       refine pu 3 (some 45) ?_ rfl rfl (by kernel_rfl) (fun _ _ _ h=>h) (.inl ⟨by rfl,?_⟩) ?_ ?_ ?_;rotate_left;intro w';go_simp;with_reducible rfl;rotate_left;simp only [nS];rfl
       refine pu 4 (some 46) ?_ rfl rfl (by kernel_rfl) (fun _ _ _ h=>h) (.inl ⟨by rfl,?_⟩) ?_ ?_ ?_;rotate_left;intro w';go_simp;with_reducible rfl;rotate_left;simp only [nS];rfl
       refine pu 5 (some 47) ?_ rfl rfl (by kernel_rfl) (fun _ _ _ h=>h) (.inl ⟨by rfl,?_⟩) ?_ ?_ ?_;rotate_left;intro w';go_simp;with_reducible rfl;rotate_left;simp only [nS];rfl
       refine pu 6 (some 48) undef rfl rfl (by kernel_rfl) (fun _ _ _ h=>h) (.inr ⟨by rfl,rfl⟩) ?_ ?_ ?_;rotate_left;simp only [nS];rfl
       refine pu 7 (some 49) undef rfl rfl (by kernel_rfl) (fun _ _ _ h=>h) (.inr ⟨by rfl,rfl⟩) ?_ ?_ ?_;rotate_left;simp only [nS];rfl
       refine pu 8 (some 50) undef rfl rfl (by kernel_rfl) (fun _ _ _ h=>h) (.inr ⟨by rfl,rfl⟩) ?_ ?_ ?_;rotate_left;simp only [nS];rfl
       refine pu 9 (some 51) undef rfl rfl (by kernel_rfl) (fun _ _ _ h=>h) (.inr ⟨by rfl,rfl⟩) ?_ ?_ ?_;rotate_left;simp only [nS];rfl
       refine pu 10 (some 52) undef rfl rfl (by kernel_rfl) (fun _ _ _ h=>h) (.inr ⟨by rfl,rfl⟩) ?_ ?_ ?_;rotate_left;simp only [nS];rfl
       refine pu 11 (some 53) undef rfl rfl (by kernel_rfl) (fun _ _ _ h=>h) (.inr ⟨by rfl,rfl⟩) ?_ ?_ ?_;rotate_left;simp only [nS];rfl
       refine pu 12 (some 54) undef rfl rfl (by kernel_rfl) (fun _ _ _ h=>h) (.inr ⟨by rfl,rfl⟩) ?_ ?_ ?_;rotate_left;simp only [nS];rfl
       refine pu 13 (some 55) undef rfl rfl (by kernel_rfl) (fun _ _ _ h=>h) (.inr ⟨by rfl,rfl⟩) ?_ ?_ ?_;rotate_left;simp only [nS];rfl
       refine pu 14 (some 56) undef rfl rfl (by kernel_rfl) (fun _ _ _ h=>h) (.inr ⟨by rfl,rfl⟩) ?_ ?_ ?_;rotate_left;simp only [nS];rfl
       refine pu 15 (some 57) ?_ rfl rfl (by kernel_rfl) (fun _ _ _ h=>h) (.inl ⟨by rfl,?_⟩) ?_ ?_ ?_;rotate_left;intro w';go_simp;with_reducible rfl;rotate_left;simp only [nS];rfl
       refine done_ (by kernel_rfl) ?_
       go_wp2
       go_meet
       case rel=>exact ⟨k,rfl,⟨hk,HLT.out,fun h=>absurd h hkl⟩,BD,ID⟩
    case rest =>
    obtain ⟨k,rfl,HK,B2,I2⟩:=hcut
    clear B1 I1
    go_upto_region 12 with (fail)
    go_cut [10] (fun s10 we=>s10 = .bool (t || twG keyC x xs)∧Aside0 (Below wr.heap.size wr we)∧Aside0 (OfI k50 50 w we b6 b9 b13 size xs [] #[.int .i64 size,.slice A9 xs.length c9,v2] A9 xs #[.int .i64 x.f0,.int .i64 x.f1,.int .i64 x.f2,.int .i64 x.f3]))
    case first =>
     have BD:=aK (below_drew1 B2.out)
     have ID:=aK (I2.out.ofBelow (below_drew1 (Below.refl _ _)))
     cases t with
     | true =>
      refine start_ (n:=20) (S:=fun w'=>True) (ds:=[]) #[false,false,false,false,false,false,false,false,false,false,false,false,false,false,false,false,false,false,false,false] (by kernel_rfl) rfl rfl (trivial) (fun hHeld=>?_)
      refine pu 0 (some 60) ?_ rfl rfl (by kernel_rfl) (fun _ _ _ h=>h) (.inl ⟨by rfl,?_⟩) ?_ ?_ ?_;rotate_left;intro w';go_simp;with_reducible rfl;rotate_left;simp only [nS];rfl
      refine pu 1 (some 61) ?_ rfl rfl (by kernel_rfl) (fun _ _ _ h=>h) (.inl ⟨by rfl,?_⟩) ?_ ?_ ?_;rotate_left;intro w';go_simp;with_reducible rfl;rotate_left;simp only [nS];rfl
      refine pu 2 (some 62) undef rfl rfl (by kernel_rfl) (fun _ _ _ h=>h) (.inr ⟨by rfl,rfl⟩) ?_ ?_ ?_;rotate_left;simp only [nS];rfl
      refine pu 3 (some 63) undef rfl rfl (by kernel_rfl) (fun _ _ _ h=>h) (.inr ⟨by rfl,rfl⟩) ?_ ?_ ?_;rotate_left;simp only [nS];rfl
      refine pu 4 (some 64) undef rfl rfl (by kernel_rfl) (fun _ _ _ h=>h) (.inr ⟨by rfl,rfl⟩) ?_ ?_ ?_;rotate_left;simp only [nS];rfl
      refine pu 5 (some 65) undef rfl rfl (by kernel_rfl) (fun _ _ _ h=>h) (.inr ⟨by rfl,rfl⟩) ?_ ?_ ?_;rotate_left;simp only [nS];rfl
      refine pu 6 (some 66) undef rfl rfl (by kernel_rfl) (fun _ _ _ h=>h) (.inr ⟨by rfl,rfl⟩) ?_ ?_ ?_;rotate_left;simp only [nS];rfl
      refine pu 7 (some 67) undef rfl rfl (by kernel_rfl) (fun _ _ _ h=>h) (.inr ⟨by rfl,rfl⟩) ?_ ?_ ?_;rotate_left;simp only [nS];rfl
      refine pu 8 (some 68) undef rfl rfl (by kernel_rfl) (fun _ _ _ h=>h) (.inr ⟨by rfl,rfl⟩) ?_ ?_ ?_;rotate_left;simp only [nS];rfl
      refine pu 9 (some 69) undef rfl rfl (by kernel_rfl) (fun _ _ _ h=>h) (.inr ⟨by rfl,rfl⟩) ?_ ?_ ?_;rotate_left;simp only [nS];rfl
      refine pu 10 (some 70) undef rfl rfl (by kernel_rfl) (fun _ _ _ h=>h) (.inr ⟨by rfl,rfl⟩) ?_ ?_ ?_;rotate_left;simp only [nS];rfl
      refine pu 11 (some 71) undef rfl rfl (by kernel_rfl) (fun _ _ _ h=>h) (.inr ⟨by rfl,rfl⟩) ?_ ?_ ?_;rotate_left;simp only [nS];rfl
      refine pu 12 (some 72) undef rfl rfl (by kernel_rfl) (fun _ _ _ h=>h) (.inr ⟨by rfl,rfl⟩) ?_ ?_ ?_;rotate_left;simp only [nS];rfl
      refine pu 13 (some 73) undef rfl rfl (by kernel_rfl) (fun _ _ _ h=>h) (.inr ⟨by rfl,rfl⟩) ?_ ?_ ?_;rotate_left;simp only [nS];rfl
      refine pu 14 (some 74) undef rfl rfl (by kernel_rfl) (fun _ _ _ h=>h) (.inr ⟨by rfl,rfl⟩) ?_ ?_ ?_;rotate_left;simp only [nS];rfl
      refine pu 15 (some 75) undef rfl rfl (by kernel_rfl) (fun _ _ _ h=>h) (.inr ⟨by rfl,rfl⟩) ?_ ?_ ?_;rotate_left;simp only [nS];rfl
      refine pu 16 (some 76) undef rfl rfl (by kernel_rfl) (fun _ _ _ h=>h) (.inr ⟨by rfl,rfl⟩) ?_ ?_ ?_;rotate_left;simp only [nS];rfl
      refine pu 17 (some 77) undef rfl rfl (by kernel_rfl) (fun _ _ _ h=>h) (.inr ⟨by rfl,rfl⟩) ?_ ?_ ?_;rotate_left;simp only [nS];rfl
      refine pu 18 (some 78) ?_ rfl rfl (by kernel_rfl) (fun _ _ _ h=>h) (.inl ⟨by rfl,?_⟩) ?_ ?_ ?_;rotate_left;intro w';go_simp;with_reducible rfl;rotate_left;simp only [nS];rfl
      refine pu 19 (some 10) ?_ rfl rfl (by kernel_rfl) (fun _ _ _ h=>h) (.inl ⟨by rfl,?_⟩) ?_ ?_ ?_;rotate_left;intro w';go_simp;with_reducible rfl;rotate_left;simp only [nS];rfl
      refine done_ (by kernel_rfl) ?_
      go_wp2
      go_meet
      case rel=>exact ⟨rfl,BD,ID⟩
     | false =>
      have P0:=aK ((blk_cell (blk_drew I2.out.bm) 1).trans rfl)
      have P1:=aK ((blk_cell (blk_drew I2.out.bc) 0).trans rfl)
      have P2:=aK ((blk_cell (blk_drew I2.out.bc) 1).trans rfl)
      have P3:=aK ((blk_cell (blk_drew I2.out.bc) 2).trans rfl)
      have P4:=aK ((blk_cell (blk_drew I2.out.bc) 3).trans rfl)
      clear B2 I2
      by_cases hkl:k<xs.length
      ·have hkli:(k:Int)<(xs.length:Int):=by omega
       have hk0:(0:Int)≤(k:Int):=by omega
       have hkb:decide ((k:Int)<(xs.length:Int))=true:=decide_eq_true hkli
       have hkb2:decide (k<xs.length)=true:=decide_eq_true hkl
       have htw:=twG_in keyC x xs k hkl HK.out.2.1 (HK.out.2.2 hkl)
       obtain ⟨ad9,e9,hy0,hy1,hy2,hy3⟩:=at_T50 ID.out.rc (k:Int) hk0 hkli
       simp only [Int.toNat_natCast] at hy0 hy1 hy2 hy3
       have hrd:rd_T50 xs (k:Int)=xs[k]:=by simp [rd_T50,List.getD_eq_getElem?_getD,hkl]
       rw [← hrd] at htw
       generalize rd_T50 xs (k:Int)=y at *
       have P5:=aK hy0
       have P6:=aK hy1
       have P7:=aK hy2
       have P8:=aK hy3
       subst e9
       have HTW:=aK htw
       clear hrd hy0 hy1 hy2 hy3 htw
       refine start_ (n:=20) (S:=fun w'=>w'.cell? ⟨b9,1,none⟩=some (.slice (some ad9) xs.length c9)∧w'.cell? ⟨b13,0,none⟩=some (.int .i64 x.f0)∧w'.cell? ⟨b13,1,none⟩=some (.int .i64 x.f1)∧w'.cell? ⟨b13,2,none⟩=some (.int .i64 x.f2)∧w'.cell? ⟨b13,3,none⟩=some (.int .i64 x.f3)∧w'.cell? (ad9.add (k*4))=some (.int .i64 y.f0)∧w'.cell? ⟨(ad9.add (k*4)).block,(ad9.add (k*4)).off+1,none⟩=some (.int .i64 y.f1)∧w'.cell? ⟨(ad9.add (k*4)).block,(ad9.add (k*4)).off+2,none⟩=some (.int .i64 y.f2)∧w'.cell? ⟨(ad9.add (k*4)).block,(ad9.add (k*4)).off+3,none⟩=some (.int .i64 y.f3)) (ds:=[]) #[false,false,false,false,false,false,false,false,false,false,false,false,false,false,false,false,false,false,false,false] (by kernel_rfl) rfl rfl ⟨P0.out,P1.out,P2.out,P3.out,P4.out,P5.out,P6.out,P7.out,P8.out⟩ (fun hHeld=>?_)
       refine pu 0 (some 60) ?_ rfl rfl (by kernel_rfl) (fun _ _ _ h=>h) (.inl ⟨by rfl,?_⟩) ?_ ?_ ?_;rotate_left;intro w';go_simp;with_reducible rfl;rotate_left;simp only [nS];rfl
       refine pu 1 (some 61) ?_ rfl rfl (by kernel_rfl) (fun _ _ _ h=>h) (.inl ⟨by rfl,?_⟩) ?_ ?_ ?_;rotate_left;intro w';go_simp;with_reducible rfl;rotate_left;simp only [nS];rfl
       refine pu 2 (some 62) ?_ rfl rfl (by kernel_rfl) (fun _ _ _ h=>h) (.inl ⟨by rfl,?_⟩) ?_ ?_ ?_;rotate_left;intro w';go_simp;with_reducible rfl;rotate_left;simp only [nS];rfl
       refine pu 3 (some 63) ?_ rfl rfl (by kernel_rfl) (fun _ _ _ h=>h) (.inl ⟨by rfl,?_⟩) ?_ ?_ ?_;rotate_left;intro w';go_simp;with_reducible rfl;rotate_left;simp only [nS];rfl
       refine tk 4 (some 64) ?_ rfl rfl (by kernel_rfl) (fun _ _ _ h=>h) (.inl ⟨by rfl,?_⟩) hHeld ?_ ?_ ?_;rotate_left;rintro w' ⟨s0,s1,s2,s3,s4,s5,s6,s7,s8⟩;go_simp;with_reducible rfl;rotate_left;simp only [nS];rfl
       refine pu 5 (some 65) ?_ rfl rfl (by kernel_rfl) (fun _ _ _ h=>h) (.inl ⟨by rfl,?_⟩) ?_ ?_ ?_;rotate_left;intro w';go_simp;with_reducible rfl;rotate_left;simp only [nS];rfl
       refine pu 6 (some 66) ?_ rfl rfl (by kernel_rfl) (fun _ _ _ h=>h) (.inl ⟨by rfl,?_⟩) ?_ ?_ ?_;rotate_left;intro w';go_simp;with_reducible rfl;rotate_left;simp only [nS];rfl
       refine pu 7 (some 67) ?_ rfl rfl (by kernel_rfl) (fun _ _ _ h=>h) (.inl ⟨by rfl,?_⟩) ?_ ?_ ?_;rotate_left;intro w';go_simp;with_reducible rfl;rotate_left;simp only [nS];rfl
       refine pu 8 (some 68) ?_ rfl rfl (by kernel_rfl) (fun _ _ _ h=>h) (.inl ⟨by rfl,?_⟩) ?_ ?_ ?_;rotate_left;intro w';go_simp;with_reducible rfl;rotate_left;simp only [nS];rfl
       refine pu 10 (some 70) ?_ rfl rfl (by kernel_rfl) (fun _ _ _ h=>h) (.inl ⟨by rfl,?_⟩) ?_ ?_ ?_;rotate_left;intro w';go_simp;with_reducible rfl;rotate_left;simp only [nS];rfl
       refine pu 14 (some 74) ?_ rfl rfl (by kernel_rfl) (fun _ _ _ h=>h) (.inl ⟨by rfl,?_⟩) ?_ ?_ ?_;rotate_left;intro w';go_simp;with_reducible rfl;rotate_left;simp only [nS];rfl
       refine tk 9 (some 69) ?_ rfl rfl (by kernel_rfl) (fun _ _ _ h=>h) (.inl ⟨by rfl,?_⟩) hHeld ?_ ?_ ?_;rotate_left;rintro w' ⟨s0,s1,s2,s3,s4,s5,s6,s7,s8⟩;go_simp;with_reducible rfl;rotate_left;simp only [nS];rfl
       refine pu 11 (some 71) ?_ rfl rfl (by kernel_rfl) (fun _ _ _ h=>h) (.inl ⟨by rfl,?_⟩) ?_ ?_ ?_;rotate_left;intro w';go_simp;with_reducible rfl;rotate_left;simp only [nS];rfl
       refine pu 12 (some 72) ?_ rfl rfl (by kernel_rfl) (fun _ _ _ h=>h) (.inl ⟨by rfl,?_⟩) ?_ ?_ ?_;rotate_left;intro w';go_simp;with_reducible rfl;rotate_left;simp only [nS];rfl
       refine tk 13 (some 73) ?_ rfl rfl (by kernel_rfl) (fun _ _ _ h=>h) (.inl ⟨by rfl,?_⟩) hHeld ?_ ?_ ?_;rotate_left;rintro w' ⟨s0,s1,s2,s3,s4,s5,s6,s7,s8⟩;go_simp;with_reducible rfl;rotate_left;simp only [nS];rfl
       refine tk 15 (some 75) ?_ rfl rfl (by kernel_rfl) (fun _ _ _ h=>h) (.inl ⟨by rfl,?_⟩) hHeld ?_ ?_ ?_;rotate_left;rintro w' ⟨s0,s1,s2,s3,s4,s5,s6,s7,s8⟩;go_simp;with_reducible rfl;rotate_left;simp only [nS];rfl
       refine pu 16 (some 76) ?_ rfl rfl (by kernel_rfl) (fun _ _ _ h=>h) (.inl ⟨by rfl,?_⟩) ?_ ?_ ?_;rotate_left;intro w';go_simp;with_reducible rfl;rotate_left;simp only [nS];rfl
       refine pu 17 (some 77) ?_ rfl rfl (by kernel_rfl) (fun _ _ _ h=>h) (.inl ⟨by rfl,?_⟩) ?_ ?_ ?_;rotate_left;intro w';go_simp;with_reducible rfl;rotate_left;simp only [nS];rfl
       refine pu 18 (some 78) ?_ rfl rfl (by kernel_rfl) (fun _ _ _ h=>h) (.inl ⟨by rfl,?_⟩) ?_ ?_ ?_;rotate_left;intro w';go_simp;with_reducible rfl;rotate_left;simp only [nS];rfl
       refine pu 19 (some 10) ?_ rfl rfl (by kernel_rfl) (fun _ _ _ h=>h) (.inl ⟨by rfl,?_⟩) ?_ ?_ ?_;rotate_left;intro w';go_simp;with_reducible rfl;rotate_left;simp only [nS];rfl
       refine done_ (by kernel_rfl) ?_
       go_wp2
       go_meet
       case rel=>exact ⟨congrArg Value.bool (by rw [HTW.out];rfl),BD,ID⟩
      ·have hkli : ¬ (k:Int)<(xs.length:Int):=by omega
       have hkb:decide ((k:Int)<(xs.length:Int))=false:=decide_eq_false hkli
       have hkb2:decide (k<xs.length)=false:=decide_eq_false hkl
       have HTW:=aK (twG_out keyC x xs (fun j h=>HK.out.2.1 j h (by omega)))
       refine start_ (n:=20) (S:=fun w'=>w'.cell? ⟨b9,1,none⟩=some (.slice A9 xs.length c9)∧w'.cell? ⟨b13,0,none⟩=some (.int .i64 x.f0)∧w'.cell? ⟨b13,1,none⟩=some (.int .i64 x.f1)∧w'.cell? ⟨b13,2,none⟩=some (.int .i64 x.f2)∧w'.cell? ⟨b13,3,none⟩=some (.int .i64 x.f3)) (ds:=[]) #[false,false,false,false,false,false,false,false,false,false,false,false,false,false,false,false,false,false,false,false] (by kernel_rfl) rfl rfl ⟨P0.out,P1.out,P2.out,P3.out,P4.out⟩ (fun hHeld=>?_)
       refine pu 0 (some 60) ?_ rfl rfl (by kernel_rfl) (fun _ _ _ h=>h) (.inl ⟨by rfl,?_⟩) ?_ ?_ ?_;rotate_left;intro w';go_simp;with_reducible rfl;rotate_left;simp only [nS];rfl
       refine pu 1 (some 61) ?_ rfl rfl (by kernel_rfl) (fun _ _ _ h=>h) (.inl ⟨by rfl,?_⟩) ?_ ?_ ?_;rotate_left;intro w';go_simp;with_reducible rfl;rotate_left;simp only [nS];rfl
       refine pu 2 (some 62) ?_ rfl rfl (by kernel_rfl) (fun _ _ _ h=>h) (.inl ⟨by rfl,?_⟩) ?_ ?_ ?_;rotate_left;intro w';go_simp;with_reducible rfl;rotate_left;simp only [nS];rfl
       refine pu 3 (some 63) ?_ rfl rfl (by kernel_rfl) (fun _ _ _ h=>h) (.inl ⟨by rfl,?_⟩) ?_ ?_ ?_;rotate_left;intro w';go_simp;with_reducible rfl;rotate_left;simp only [nS];rfl
       refine tk 4 (some 64) ?_ rfl rfl (by kernel_rfl) (fun _ _ _ h=>h) (.inl ⟨by rfl,?_⟩) hHeld ?_ ?_ ?_;rotate_left;rintro w' ⟨s0,s1,s2,s3,s4⟩;go_simp;with_reducible rfl;rotate_left;simp only [nS];rfl
       refine pu 5 (some 65) ?_ rfl rfl (by kernel_rfl) (fun _ _ _ h=>h) (.inl ⟨by rfl,?_⟩) ?_ ?_ ?_;rotate_left;intro w';go_simp;with_reducible rfl;rotate_left;simp only [nS];rfl
       refine pu 6 (some 66) ?_ rfl rfl (by kernel_rfl) (fun _ _ _ h=>h) (.inl ⟨by rfl,?_⟩) ?_ ?_ ?_;rotate_left;intro w';go_simp;with_reducible rfl;rotate_left;simp only [nS];rfl
       refine pu 7 (some 67) ?_ rfl rfl (by kernel_rfl) (fun _ _ _ h=>h) (.inl ⟨by rfl,?_⟩) ?_ ?_ ?_;rotate_left;intro w';go_simp;with_reducible rfl;rotate_left;simp only [nS];rfl
       refine pu 8 (some 68) undef rfl rfl (by kernel_rfl) (fun _ _ _ h=>h) (.inr ⟨by rfl,rfl⟩) ?_ ?_ ?_;rotate_left;simp only [nS];rfl
       refine pu 9 (some 69) undef rfl rfl (by kernel_rfl) (fun _ _ _ h=>h) (.inr ⟨by rfl,rfl⟩) ?_ ?_ ?_;rotate_left;simp only [nS];rfl
       refine pu 10 (some 70) undef rfl rfl (by kernel_rfl) (fun _ _ _ h=>h) (.inr ⟨by rfl,rfl⟩) ?_ ?_ ?_;rotate_left;simp only [nS];rfl
       refine pu 11 (some 71) undef rfl rfl (by kernel_rfl) (fun _ _ _ h=>h) (.inr ⟨by rfl,rfl⟩) ?_ ?_ ?_;rotate_left;simp only [nS];rfl
       refine pu 12 (some 72) undef rfl rfl (by kernel_rfl) (fun _ _ _ h=>h) (.inr ⟨by rfl,rfl⟩) ?_ ?_ ?_;rotate_left;simp only [nS];rfl
       refine pu 13 (some 73) undef rfl rfl (by kernel_rfl) (fun _ _ _ h=>h) (.inr ⟨by rfl,rfl⟩) ?_ ?_ ?_;rotate_left;simp only [nS];rfl
       refine pu 14 (some 74) undef rfl rfl (by kernel_rfl) (fun _ _ _ h=>h) (.inr ⟨by rfl,rfl⟩) ?_ ?_ ?_;rotate_left;simp only [nS];rfl
       refine pu 15 (some 75) undef rfl rfl (by kernel_rfl) (fun _ _ _ h=>h) (.inr ⟨by rfl,rfl⟩) ?_ ?_ ?_;rotate_left;simp only [nS];rfl
       refine pu 16 (some 76) undef rfl rfl (by kernel_rfl) (fun _ _ _ h=>h) (.inr ⟨by rfl,rfl⟩) ?_ ?_ ?_;rotate_left;simp only [nS];rfl
       refine pu 17 (some 77) ?_ rfl rfl (by kernel_rfl) (fun _ _ _ h=>h) (.inl ⟨by rfl,?_⟩) ?_ ?_ ?_;rotate_left;intro w';go_simp;with_reducible rfl;rotate_left;simp only [nS];rfl
       refine pu 18 (some 78) ?_ rfl rfl (by kernel_rfl) (fun _ _ _ h=>h) (.inl ⟨by rfl,?_⟩) ?_ ?_ ?_;rotate_left;intro w';go_simp;with_reducible rfl;rotate_left;simp only [nS];rfl
       refine pu 19 (some 10) ?_ rfl rfl (by kernel_rfl) (fun _ _ _ h=>h) (.inl ⟨by rfl,?_⟩) ?_ ?_ ?_;rotate_left;intro w';go_simp;with_reducible rfl;rotate_left;simp only [nS];rfl
       refine done_ (by kernel_rfl) ?_
       go_wp2
       go_meet
       case rel=>exact ⟨congrArg Value.bool (by rw [HTW.out];rfl),BD,ID⟩
    case rest =>
    obtain ⟨rfl,B3,I3⟩:=hcut
    clear B2 I2
    have B4:=aK (below_step I3.out.ms.base.below (below_drew1 (Below.refl _ _)))
    have I4:=aK (I3.out.ofBelow (below_drew1 (Below.refl _ _)))
    have P0:=aK ((blk_cell (blk_drew I3.out.bm) 1).trans rfl)
    have P1:=aK ((blk_cell (blk_drew I3.out.bc) 0).trans rfl)
    have P2:=aK ((blk_cell (blk_drew I3.out.bc) 1).trans rfl)
    have P3:=aK ((blk_cell (blk_drew I3.out.bc) 2).trans rfl)
    have P4:=aK ((blk_cell (blk_drew I3.out.bc) 3).trans rfl)
    have HINS:=aK (insG_at keyC x xs k HK.out.1 HK.out.2.1 HK.out.2.2)
    have HKL:=aK HK.out.1
    have HLN:Aside0 (xs.length≤1000000):=⟨by have h1:=HXL.out;have h2:=HL1.out;omega⟩
    obtain ⟨i0,hi0',hz0,hsz,hby⟩:=info_parts info50
    have hcA:=cut_same (P:=Tryz.prog) 22 50 .i64 .i64 Tryz.underlying22 hi0' A9 xs.length c9 (k:Int) (by omega) (by have:=HKL.out;omega) HC9.out
    have hcB:=cut_from (P:=Tryz.prog) 22 50 .i64 Tryz.underlying22 hi0' 4 hsz A9 xs.length c9 (k:Int) (by omega) (by have:=HKL.out;omega)
    simp only [Int.toNat_natCast] at hcA hcB
    obtain ⟨A63,hA63⟩ : ∃ A1,(if c9=k then A9 else A9.map (·.add (k*4)))=A1:=⟨_,rfl⟩
    rw [hA63] at hcB
    have HC63:=aK (show Kd.C k50 _ A63 (xs.length-k) (xs.drop k) by have:=Kd.C_drop (k:=k50) I4.out.rc HKL.out HC9.out;rw [List.length_drop] at this;rw [← hA63];exact this)
    have HCT:=aK (show Kd.C k50 _ A9 k (xs.take k) by have:=Kd.C_take (k:=k50) I4.out.rc HKL.out;rw [List.length_take,Nat.min_eq_left HKL.out] at this;exact this)
    obtain ⟨c63,hc63⟩ : ∃ c1,c9-k=c1:=⟨_,rfl⟩
    rw [hc63] at hcB
    clear hA63 hc63 hi0' hz0 hsz hby I3 B3 HK
    go_upto_region 13 with (fail)
    refine start_ (n:=15) (S:=fun w'=>w'.cell? ⟨b9,1,none⟩=some (.slice A9 xs.length c9)∧w'.cell? ⟨b13,0,none⟩=some (.int .i64 x.f0)∧w'.cell? ⟨b13,1,none⟩=some (.int .i64 x.f1)∧w'.cell? ⟨b13,2,none⟩=some (.int .i64 x.f2)∧w'.cell? ⟨b13,3,none⟩=some (.int .i64 x.f3)) (ds:=[14]) #[false,false,false,false,false,false,false,false,false,false,false,false,false,false,false] (by kernel_rfl) rfl rfl ⟨P0.out,P1.out,P2.out,P3.out,P4.out⟩ (fun hHeld=>?_)
    refine pu 0 (some 79) ?_ rfl rfl (by kernel_rfl) (fun _ _ _ h=>h) (.inl ⟨by rfl,?_⟩) ?_ ?_ ?_;rotate_left;intro w';go_simp;with_reducible rfl;rotate_left;simp only [nS];rfl
    refine pu 2 (some 81) ?_ rfl rfl (by kernel_rfl) (fun _ _ _ h=>h) (.inl ⟨by rfl,?_⟩) ?_ ?_ ?_;rotate_left;intro w';go_simp;with_reducible rfl;rotate_left;simp only [nS];rfl
    refine pu 3 (some 82) ?_ rfl rfl (by kernel_rfl) (fun _ _ _ h=>h) (.inl ⟨by rfl,?_⟩) ?_ ?_ ?_;rotate_left;intro w';go_simp;with_reducible rfl;rotate_left;simp only [nS];rfl
    refine pu 7 (some 86) ?_ rfl rfl (by kernel_rfl) (fun _ _ _ h=>h) (.inl ⟨by rfl,?_⟩) ?_ ?_ ?_;rotate_left;intro w';go_simp;with_reducible rfl;rotate_left;simp only [nS];rfl
    refine pu 9 (some 88) ?_ rfl rfl (by kernel_rfl) (fun _ _ _ h=>h) (.inl ⟨by rfl,?_⟩) ?_ ?_ ?_;rotate_left;intro w';go_simp;with_reducible rfl;rotate_left;simp only [nS];rfl
    refine tk 1 (some 80) ?_ rfl rfl (by kernel_rfl) (fun _ _ _ h=>h) (.inl ⟨by rfl,?_⟩) hHeld ?_ ?_ ?_;rotate_left;rintro w' ⟨s0,s1,s2,s3,s4⟩;go_simp;with_reducible rfl;rotate_left;simp only [nS];rfl
    refine pu 4 (some 83) ?_ rfl rfl (by kernel_rfl) (fun _ _ _ h=>h) (.inl ⟨by rfl,?_⟩) ?_ ?_ ?_;rotate_left;intro w';go_simp;with_reducible rfl;rotate_left;simp only [nS];rfl
    refine tk 5 (some 84) ?_ rfl rfl (by kernel_rfl) (fun _ _ _ h=>h) (.inl ⟨by rfl,?_⟩) hHeld ?_ ?_ ?_;rotate_left;rintro w' ⟨s0,s1,s2,s3,s4⟩;go_simp;with_reducible rfl;rotate_left;simp only [nS];rfl
    refine tk 8 (some 87) ?_ rfl rfl (by kernel_rfl) (fun _ _ _ h=>h) (.inl ⟨by rfl,?_⟩) hHeld ?_ ?_ ?_;rotate_left;rintro w' ⟨s0,s1,s2,s3,s4⟩;go_simp;with_reducible rfl;rotate_left;simp only [nS];rfl
    refine pu 10 (some 89) ?_ rfl rfl (by kernel_rfl) (fun _ _ _ h=>h) (.inl ⟨by rfl,?_⟩) ?_ ?_ ?_;rotate_left;intro w';go_simp;with_reducible rfl;rotate_left;simp only [nS];rfl
    refine one_ (i:=6) (N:=some 85) #[true,true,true,true,true,true,true,true,true,true,true,false,false,false,false] rfl rfl (by kernel_rfl) (by decide) (fun K hK=>?_)
    refine Kd.R_lit_step k50 _ 50 ?hg (N:=85) ?hd (xs:=[x]) (inner:=[.int .i64 x.f0,.int .i64 x.f1,.int .i64 x.f2,.int .i64 x.f3]) (ok:=fun _=>True) (okp:=fun _=>False) ?hr ?hp (fun _ _=>trivial) trivial (Below.refl _ _) (Nat.le_refl _) (by simp) ?_
    case hd=>rfl
    case hg=>rfl
    case hr=>first|(go_simp;done)|(go_simp;rfl)
    case hp=>exact Reps.c4 (k50_mkM _ _ _ x) (Reps.none _ _)
    intro v60 w7 ho7 hb7 hg7 hat7
    have HO7:=aK ho7
    have HB7:=aK hb7
    clear ho7 hb7 hg7 hat7
    refine hK.out _ _ ⟨(HB7.out.cell (World.block_lt_of_cell? _ _ P0.out)).trans P0.out,(HB7.out.cell (World.block_lt_of_cell? _ _ P1.out)).trans P1.out,(HB7.out.cell (World.block_lt_of_cell? _ _ P2.out)).trans P2.out,(HB7.out.cell (World.block_lt_of_cell? _ _ P3.out)).trans P3.out,(HB7.out.cell (World.block_lt_of_cell? _ _ P4.out)).trans P4.out⟩ (fun hHeld=>?_)
    clear hK K
    refine norm_ (a':=?_) ?_ ?_;rotate_left;show Act.put _ (some 85) _=_;simp only [nS];rfl
    refine one_ (i:=11) (N:=some 90) #[true,true,true,true,true,true,true,true,true,true,true,true,false,false,false] rfl rfl (by kernel_rfl) (by decide) (fun K hK=>?_)
    refine Kd.R_append_rows_step k50 _ (by rfl) (.tmp 85) (.tmp 89) 22 50 (.agg #[.int .i64 0,.int .i64 0,.int .i64 0,.int .i64 0]) 32 rfl Tryz.underlying22 info50 rfl (by decide) (by omega) v60 [x] (xs.drop k) A63 _ c63 (fun _=>True) (fun _=>False) rfl rfl HO7.out (Kd.C_below HC63.out HB7.out) (fun y cs h=>flatC _ y cs h _ _ _) (fun _ h=>h.elim) (fun _ _=>trivial) HB7.out HB7.out.size ?aL ?_
    case aL=>have:=HLN.out;simp only [List.length_singleton];omega
    intro v64 w9 ho9 hb9 hg9 hat9
    have HO9:=aK ho9
    have HB9:=aK hb9
    clear ho9 hb9 hg9 hat9 HO7 HB7
    refine hK.out _ _ ⟨(HB9.out.cell (World.block_lt_of_cell? _ _ P0.out)).trans P0.out,(HB9.out.cell (World.block_lt_of_cell? _ _ P1.out)).trans P1.out,(HB9.out.cell (World.block_lt_of_cell? _ _ P2.out)).trans P2.out,(HB9.out.cell (World.block_lt_of_cell? _ _ P3.out)).trans P3.out,(HB9.out.cell (World.block_lt_of_cell? _ _ P4.out)).trans P4.out⟩ (fun hHeld=>?_)
    clear hK K
    refine norm_ (a':=?_) ?_ ?_;rotate_left;show Act.put _ (some 90) _=_;simp only [nS];rfl
    refine one_ (i:=12) (N:=some 91) #[true,true,true,true,true,true,true,true,true,true,true,true,true,false,false] rfl rfl (by kernel_rfl) (by decide) (fun K hK=>?_)
    obtain ⟨A64,c64,rfl,hc64,hC64⟩:=Kd.R_reads HO9.out
    have HC64:=aK hC64
    clear hC64 hc64
    refine cut_append_step k50 flatC rfl (.tmp 83) (.tmp 90) 22 rfl 50 (.agg #[.int .i64 0,.int .i64 0,.int .i64 0,.int .i64 0]) 32 Tryz.underlying22 info50 rfl (by decide) A9 k (xs.take k) rfl (Kd.C_below HCT.out HB9.out) A64 ([x]++xs.drop k).length c64 ([x]++xs.drop k) rfl HC64.out (by simp) ?aB1 ?aB2 w.heap.size (Nat.le_trans B4.out.size HB9.out.size) (fun _=>True) (fun _ _=>trivial) ?_
    case aB1=>have:=HLN.out;have:=HKL.out;simp [maxLen];omega
    case aB2=>have:=HLN.out;have:=HKL.out;simp;omega
    intro v65 w10 ho10 hgrow
    rw [← HINS.out] at ho10
    have HO10:=aK ho10
    have HB10:=aK (HB9.out.grown hgrow HB9.out.size (fun k hk=>by cases hk))
    obtain ⟨A65,c65,rfl⟩:=Kd.R_slice ho10
    clear hgrow HO9 HB9 HC64 ho10
    refine hK.out _ _ ⟨(HB10.out.cell (World.block_lt_of_cell? _ _ P0.out)).trans P0.out,(HB10.out.cell (World.block_lt_of_cell? _ _ P1.out)).trans P1.out,(HB10.out.cell (World.block_lt_of_cell? _ _ P2.out)).trans P2.out,(HB10.out.cell (World.block_lt_of_cell? _ _ P3.out)).trans P3.out,(HB10.out.cell (World.block_lt_of_cell? _ _ P4.out)).trans P4.out⟩ (fun hHeld=>?_)
    clear hK K
    refine norm_ (a':=?_) ?_ ?_;rotate_left;show Act.put _ (some 91) _=_;simp only [nS];rfl
    refine pu 13 (some 92) ?_ rfl rfl (by kernel_rfl) (fun _ _ _ h=>h) (.inl ⟨by rfl,?_⟩) ?_ ?_ ?_;rotate_left;intro w';go_simp;with_reducible rfl;rotate_left;simp only [nS];rfl
    refine last_ (i:=14) (N:=none) #[true,true,true,true,true,true,true,true,true,true,true,true,true,true,true] rfl rfl (by kernel_rfl) (by decide) (fun K hK=>?_)
    have f1:=(HB10.out.cell (World.block_lt_of_cell? _ _ P0.out)).trans P0.out
    have f2:=blk_frozen (I4.out.ofBelow HB10.out).bm 1
    refine skip_ (w1:=?_) (by rfl) rfl ?_ ?_
    rotate_left
    ·go_simp
     rfl
    refine hK.out _ _ ?_
    clear hK K
    refine done_ (by kernel_rfl) ?_
    have J9:=aK ((I4.out.ms.ofBelow HB10.out).putC ⟨Nat.le_refl _,fun _ _ _=>rfl⟩ (below_step B4.out HB10.out) HO10.out)
    go_wp2
    go_roundg (gs.length-(i+1))
    case measure=>omega
    case rel=>exact ⟨i+1,_,_,by omega,by omega,rfl,rfl,by first|exact congrArg (Value.int .i64) HSTEP.out|go_num,⟨by rw [HA.out,← Bool.and_assoc,← HBB.out]⟩,⟨by rw [HTT.out,HN.out];exact Bool.or_assoc _ _ _⟩,⟨by rw [HN.out];exact J9.out⟩⟩
   ·have hlti : ¬ (i:Int)<(gs.length:Int):=by omega
    obtain rfl:i=gs.length:=by omega
    have hlen:cs0.take gs.length=cs0:=by rw [← HCL.out,List.take_length]
    rw [hlen] at HBB HTT J
    go_wp2
    go_meet
    case rel=>exact ⟨b,t,rfl,rfl,HBB,⟨by rw [HTT.out];rfl⟩,J⟩
 case rest =>
  obtain ⟨b1,t1,rfl,rfl,HB1,HT1,J1⟩:=hcut
  clear J0
  generalize hxc:(ofG keyC cs0).1=xc at *
  have HXC:=aK hxc
  clear hxc
  go_upto_block 4 with (fail)
  go_cut [8,10] (fun s8 s10 wc=>∃ (b t:Bool),s8 = .bool b∧s10 = .bool t∧Aside0 (b=(b1 && ls.all okR))∧Aside0 (t=(t1 || (ofG keyR ls).2))∧Aside0 (MetS w wc b6 b9 size xc (ofG keyR ls).1))
  case first =>
   go_wp2_with fail
   go_loopg [8,10,96] ls.length (fun gg s8 s10 s wr=>∃ (i:Nat) (b t:Bool),i≤ls.length∧ls.length-i≤gg∧s8 = .bool b∧s10 = .bool t∧s = .int .i64 i∧Aside0 (b=(b1 && (ls.take i).all okR))∧Aside0 (t=(t1 || (ofG keyR (ls.take i)).2))∧Aside0 (MetS w wr b6 b9 size xc (ofG keyR (ls.take i)).1))
   case atStart=>exact ⟨0,b1,t1,by omega,by omega,rfl,rfl,rfl,⟨by simp⟩,⟨by simp [ofG]⟩,J1⟩
   case round =>
    clear J1
    obtain ⟨i,b,t,hi,hg,rfl,rfl,rfl,HBB,HTT,J⟩:=hrel
    by_cases hlt:i<ls.length
    ·have hlti:(i:Int)<(ls.length:Int):=by omega
     have hi0:(0:Int)≤(i:Int):=by omega
     obtain ⟨ad,e1,hx0,hx1,hx2,hx3⟩:=at_T45 HR2.out (i:Int) hi0 hlti
     simp only [Int.toNat_natCast] at hx0 hx1 hx2 hx3
     replace hx0:=(J.out.base.below.cell (World.block_lt_of_cell? w _ hx0)).trans hx0
     replace hx1:=(J.out.base.below.cell (World.block_lt_of_cell? w _ hx1)).trans hx1
     replace hx2:=(J.out.base.below.cell (World.block_lt_of_cell? w _ hx2)).trans hx2
     replace hx3:=(J.out.base.below.cell (World.block_lt_of_cell? w _ hx3)).trans hx3
     have hlt2:i<ls.length:=hlt
     have hel:rd_T45 ls (i:Int)=ls[i]:=by simp [rd_T45,List.getD_eq_getElem?_getD,hlt]
     have HA:=aK (all_next okR ls i hlt2)
     have HN:=aK (ofG_next keyR ls i hlt2)
     have HXL:=aK (ofG_len keyR ls i (by omega))
     rw [← hel] at HA HN
     have HSTEP:=aK (show wrap64 ((i:Int)+1)=((i+1:Nat):Int) by have:=HL2.out;unfold wrap64;omega)
     generalize rd_T45 ls (i:Int)=x at *
     obtain ⟨xs,hxs⟩ : ∃ l,l=(ofG keyR (ls.take i)).1:=⟨_,rfl⟩
     rw [← hxs] at HN HXL J
     have HXS:=aK hxs
     have hb:=(below_alloc (Below.refl wr.heap.size wr) (.cells #[.int .i64 x.f0,.int .i64 x.f1,.int .i64 x.f2,.int .i64 x.f3] 45))
     have B0:=aK hb
     have X0:=blk_new wr (.cells #[.int .i64 x.f0,.int .i64 x.f1,.int .i64 x.f2,.int .i64 x.f3] 45)
     try simp only [World.size_alloc] at X0
     obtain ⟨b13,hb13⟩ : ∃ b,b=wr.heap.size:=⟨_,rfl⟩
     rw [← hb13] at X0
     have HBE:=aK hb13
     obtain ⟨v1,v2,hm,ho1,ho2⟩:=J.out.met
     obtain ⟨A9,c9,rfl⟩:=Kd.R_slice ho2
     have hq:=Kd.R_reads' ho2
     have HC9:=aK hq.2.1
     have I:Aside0 (OfI k45 45 w (wr.alloc (.cells #[.int .i64 x.f0,.int .i64 x.f1,.int .i64 x.f2,.int .i64 x.f3] 45)) b6 b9 b13 size xc xs #[.int .i64 size,v1,.slice A9 xs.length c9] A9 xs #[.int .i64 x.f0,.int .i64 x.f1,.int .i64 x.f2,.int .i64 x.f3]):=⟨(OfI.mk (J.out.ofBelow hb) (blk_below hm hb) (Kd.C_below hq.2.2 hb) X0)⟩
     subst e1
     clear hxs hb X0 hb13 hm ho1 ho2 hq J hel hlt2
     go_upto_region 18 with (fail)
     rw [← HBE.out]
     generalize wr.alloc (.cells #[.int .i64 x.f0,.int .i64 x.f1,.int .i64 x.f2,.int .i64 x.f3] 45)=V0 at *
     clear hx0 hx1 hx2 hx3 HBE
     go_cut [8] (fun s8 wc=>s8 = .bool (b && okR x)∧Aside0 (Below wr.heap.size wr wc)∧Aside0 (OfI k45 45 w wc b6 b9 b13 size xc xs #[.int .i64 size,v1,.slice A9 xs.length c9] A9 xs #[.int .i64 x.f0,.int .i64 x.f1,.int .i64 x.f2,.int .i64 x.f3]))
     case first =>
      have y0:=(blk_cell I.out.bc 0).trans rfl
      have y1:=(blk_cell I.out.bc 1).trans rfl
      have y2:=(blk_cell I.out.bc 2).trans rfl
      have y3:=(blk_cell I.out.bc 3).trans rfl
      cases b with
      | false =>
       go_wp2
       go_meet
       case rel=>exact ⟨rfl,B0,I⟩
      | true =>
       go_wp2_with fail
       refine (fleuronref27_rule.calls x.f0 x.f1 x.f2 x.f3 (okR x) _ (ruleW_is x)).mono ?_
       rintro e Wa ⟨rfl,hb⟩
       have Ba:=aK (below_step B0.out hb)
       have Ia:=aK (I.out.ofBelow hb)
       clear hb y0 y1 y2 y3
       go_wp2
       go_meet
       case rel=>exact ⟨rfl,Ba,Ia⟩
     case rest =>
     obtain ⟨rfl,B1,I1⟩:=hcut
     clear B0 I
     go_upto_block 6 with (fail)
     go_cut [17] (fun s wd=>∃ k:Nat,s = .int .i64 k∧Aside0 (k≤xs.length∧(∀ j (h:j<xs.length),j<k→keyR xs[j]<keyR x)∧∀ h:k<xs.length,¬ keyR xs[k]<keyR x)∧Aside0 (Below wr.heap.size wr wd)∧Aside0 (OfI k45 45 w wd b6 b9 b13 size xc xs #[.int .i64 size,v1,.slice A9 xs.length c9] A9 xs #[.int .i64 x.f0,.int .i64 x.f1,.int .i64 x.f2,.int .i64 x.f3]))
     case first =>
      go_wp2_with fail
      obtain ⟨wo,hwo⟩ : ∃ wo:World,wo=wr:=⟨_,rfl⟩
      subst hwo
      go_loopg [17] xs.length (fun gg s wr=>∃ k:Nat,k≤xs.length∧xs.length-k≤gg∧s = .int .i64 k∧Aside0 (∀ j (h:j<xs.length),j<k→keyR xs[j]<keyR x)∧Aside0 (Below wo.heap.size wo wr)∧Aside0 (OfI k45 45 w wr b6 b9 b13 size xc xs #[.int .i64 size,v1,.slice A9 xs.length c9] A9 xs #[.int .i64 x.f0,.int .i64 x.f1,.int .i64 x.f2,.int .i64 x.f3]))
      case atStart=>exact ⟨0,by omega,by omega,rfl,⟨fun j h hj=>absurd hj (by omega)⟩,B1,I1⟩
      case round =>
       clear B1 I1
       obtain ⟨k,hk,hkg,rfl,HLT,BC,IC⟩:=hrel
       have P0:=aK ((blk_cell (blk_drew IC.out.bm) 2).trans rfl)
       have P1:=aK ((blk_cell (blk_drew IC.out.bc) 0).trans rfl)
       have P2:=aK ((blk_cell (blk_drew IC.out.bc) 1).trans rfl)
       have P3:=aK ((blk_cell (blk_drew IC.out.bc) 2).trans rfl)
       have P4:=aK ((blk_cell (blk_drew IC.out.bc) 3).trans rfl)
       have BD:=aK (below_drew1 BC.out)
       have ID:=aK (IC.out.ofBelow (below_drew1 (Below.refl _ _)))
       by_cases hkl:k<xs.length
       ·have hkli:(k:Int)<(xs.length:Int):=by omega
        have hk0:(0:Int)≤(k:Int):=by omega
        have hkb:decide ((k:Int)<(xs.length:Int))=true:=decide_eq_true hkli
        have hkb2:decide (k<xs.length)=true:=decide_eq_true hkl
        obtain ⟨ad9,e9,hy0,hy1,hy2,hy3⟩:=at_T45 ID.out.rc (k:Int) hk0 hkli
        simp only [Int.toNat_natCast] at hy0 hy1 hy2 hy3
        have hrd:rd_T45 xs (k:Int)=xs[k]:=by simp [rd_T45,List.getD_eq_getElem?_getD,hkl]
        have HY:=aK hrd.symm
        generalize rd_T45 xs (k:Int)=y at *
        have P5:=aK hy0
        have P6:=aK hy1
        have P7:=aK hy2
        have P8:=aK hy3
        subst e9
        have hpx:=fun V=>fleuronref27_pair.calls x.f0 x.f1 x.f2 x.f3 (keyR x) V rfl
        have hpy:=fun V=>fleuronref27_pair.calls y.f0 y.f1 y.f2 y.f3 (keyR y) V rfl
        obtain ⟨py,hpye⟩ : ∃ p,p=keyR y:=⟨_,rfl⟩
        obtain ⟨px,hpxe⟩ : ∃ p,p=keyR x:=⟨_,rfl⟩
        rw [← hpye] at hpy
        rw [← hpxe] at hpx
        have HPx:=aK hpx
        have HPy:=aK hpy
        have HPXE:=aK hpxe
        have HPYE:=aK hpye
        clear hpx hpy hpxe hpye
        have hsplit:(py<px∧decide (py<px)=true)∨(¬ py<px∧decide (py<px)=false):=by
         by_cases h:py<px
         ·exact .inl ⟨h,decide_eq_true h⟩
         ·exact .inr ⟨h,decide_eq_false h⟩
        clear hrd hy0 hy1 hy2 hy3 BC IC
        rcases hsplit with ⟨g1,g2⟩|⟨g1,g2⟩
        all_goals
         go_upto_region 20 with (fail)
         refine start_ (n:=16) (S:=fun w'=>w'.cell? ⟨b9,2,none⟩=some (.slice (some ad9) xs.length c9)∧w'.cell? ⟨b13,0,none⟩=some (.int .i64 x.f0)∧w'.cell? ⟨b13,1,none⟩=some (.int .i64 x.f1)∧w'.cell? ⟨b13,2,none⟩=some (.int .i64 x.f2)∧w'.cell? ⟨b13,3,none⟩=some (.int .i64 x.f3)∧w'.cell? (ad9.add (k*4))=some (.int .i64 y.f0)∧w'.cell? ⟨(ad9.add (k*4)).block,(ad9.add (k*4)).off+1,none⟩=some (.int .i64 y.f1)∧w'.cell? ⟨(ad9.add (k*4)).block,(ad9.add (k*4)).off+2,none⟩=some (.int .i64 y.f2)∧w'.cell? ⟨(ad9.add (k*4)).block,(ad9.add (k*4)).off+3,none⟩=some (.int .i64 y.f3)) (ds:=[]) #[false,false,false,false,false,false,false,false,false,false,false,false,false,false,false,false] (by kernel_rfl) rfl rfl ⟨P0.out,P1.out,P2.out,P3.out,P4.out,P5.out,P6.out,P7.out,P8.out⟩ (fun hHeld=>?_)
         refine pu 0 (some 105) ?_ rfl rfl (by kernel_rfl) (fun _ _ _ h=>h) (.inl ⟨by rfl,?_⟩) ?_ ?_ ?_;rotate_left;intro w';go_simp;with_reducible rfl;rotate_left;simp only [nS];rfl
         refine pu 1 (some 106) ?_ rfl rfl (by kernel_rfl) (fun _ _ _ h=>h) (.inl ⟨by rfl,?_⟩) ?_ ?_ ?_;rotate_left;intro w';go_simp;with_reducible rfl;rotate_left;simp only [nS];rfl
         refine tk 2 (some 107) ?_ rfl rfl (by kernel_rfl) (fun _ _ _ h=>h) (.inl ⟨by rfl,?_⟩) hHeld ?_ ?_ ?_;rotate_left;rintro w' ⟨s0,s1,s2,s3,s4,s5,s6,s7,s8⟩;go_simp;with_reducible rfl;rotate_left;simp only [nS];rfl
         refine pu 3 (some 108) ?_ rfl rfl (by kernel_rfl) (fun _ _ _ h=>h) (.inl ⟨by rfl,?_⟩) ?_ ?_ ?_;rotate_left;intro w';go_simp;with_reducible rfl;rotate_left;simp only [nS];rfl
         refine pu 4 (some 109) ?_ rfl rfl (by kernel_rfl) (fun _ _ _ h=>h) (.inl ⟨by rfl,?_⟩) ?_ ?_ ?_;rotate_left;intro w';go_simp;with_reducible rfl;rotate_left;simp only [nS];rfl
         refine pu 5 (some 110) ?_ rfl rfl (by kernel_rfl) (fun _ _ _ h=>h) (.inl ⟨by rfl,?_⟩) ?_ ?_ ?_;rotate_left;intro w';go_simp;with_reducible rfl;rotate_left;simp only [nS];rfl
         refine pu 6 (some 111) ?_ rfl rfl (by kernel_rfl) (fun _ _ _ h=>h) (.inl ⟨by rfl,?_⟩) ?_ ?_ ?_;rotate_left;intro w';go_simp;with_reducible rfl;rotate_left;simp only [nS];rfl
         refine pu 8 (some 113) ?_ rfl rfl (by kernel_rfl) (fun _ _ _ h=>h) (.inl ⟨by rfl,?_⟩) ?_ ?_ ?_;rotate_left;intro w';go_simp;with_reducible rfl;rotate_left;simp only [nS];rfl
         refine tk 7 (some 112) ?_ rfl rfl (by kernel_rfl) (fun _ _ _ h=>h) (.inl ⟨by rfl,?_⟩) hHeld ?_ ?_ ?_;rotate_left;rintro w' ⟨s0,s1,s2,s3,s4,s5,s6,s7,s8⟩;go_simp;with_reducible rfl;rotate_left;simp only [nS];rfl
         refine pu 9 (some 114) ?_ rfl rfl (by kernel_rfl) (fun _ _ _ h=>h) (.inl ⟨by rfl,?_⟩) ?_ ?_ ?_;rotate_left;intro w';go_simp;with_reducible rfl;rotate_left;simp only [nS];rfl
         refine tk 10 (some 115) ?_ rfl rfl (by kernel_rfl) (fun _ _ _ h=>h) (.inl ⟨by rfl,?_⟩) hHeld ?_ ?_ ?_;rotate_left;rintro w' ⟨s0,s1,s2,s3,s4,s5,s6,s7,s8⟩;go_simp;with_reducible rfl;rotate_left;simp only [nS];rfl
         refine tk 12 (some 117) ?_ rfl rfl (by kernel_rfl) (fun _ _ _ h=>h) (.inl ⟨by rfl,?_⟩) hHeld ?_ ?_ ?_;rotate_left;rintro w' ⟨s0,s1,s2,s3,s4,s5,s6,s7,s8⟩;go_simp;with_reducible rfl;rotate_left;simp only [nS];rfl
         refine one_ (i:=11) (N:=some 116) #[true,true,true,true,true,true,true,true,true,true,true,true,true,false,false,false] rfl rfl (by kernel_rfl) (by decide) (fun K hK=>?_)
         refine goes_ Tryz.func57 (by kernel_rfl) rfl #[.agg #[.int .i64 y.f0,.int .i64 y.f1,.int .i64 y.f2,.int .i64 y.f3]] (by rfl) rfl rfl (by simp only [List.map_toArray,List.map_cons,List.map_nil];rfl) ?_
         refine (HPy.out _).mono ?_
         rintro e We ⟨rfl,hb⟩
         have Be:=aK (below_step BD.out hb)
         have Ie:=aK (ID.out.ofBelow hb)
         refine ⟨_,rfl,?_⟩
         refine hK.out _ _ ⟨(hb.cell (World.block_lt_of_cell? _ _ hHeld.1)).trans hHeld.1,(hb.cell (World.block_lt_of_cell? _ _ hHeld.2.1)).trans hHeld.2.1,(hb.cell (World.block_lt_of_cell? _ _ hHeld.2.2.1)).trans hHeld.2.2.1,(hb.cell (World.block_lt_of_cell? _ _ hHeld.2.2.2.1)).trans hHeld.2.2.2.1,(hb.cell (World.block_lt_of_cell? _ _ hHeld.2.2.2.2.1)).trans hHeld.2.2.2.2.1,(hb.cell (World.block_lt_of_cell? _ _ hHeld.2.2.2.2.2.1)).trans hHeld.2.2.2.2.2.1,(hb.cell (World.block_lt_of_cell? _ _ hHeld.2.2.2.2.2.2.1)).trans hHeld.2.2.2.2.2.2.1,(hb.cell (World.block_lt_of_cell? _ _ hHeld.2.2.2.2.2.2.2.1)).trans hHeld.2.2.2.2.2.2.2.1,(hb.cell (World.block_lt_of_cell? _ _ hHeld.2.2.2.2.2.2.2.2)).trans hHeld.2.2.2.2.2.2.2.2⟩ (fun hHeld=>?_)
         clear hK K
         refine norm_ (a':=?_) ?_ ?_;rotate_left;show Act.put _ (some 116) _=_;simp only [nS];rfl
         refine one_ (i:=13) (N:=some 118) #[true,true,true,true,true,true,true,true,true,true,true,true,true,true,false,false] rfl rfl (by kernel_rfl) (by decide) (fun K hK=>?_)
         refine goes_ Tryz.func57 (by kernel_rfl) rfl #[.agg #[.int .i64 x.f0,.int .i64 x.f1,.int .i64 x.f2,.int .i64 x.f3]] (by rfl) rfl rfl (by simp only [List.map_toArray,List.map_cons,List.map_nil];rfl) ?_
         refine (HPx.out _).mono ?_
         rintro e Wf ⟨rfl,hb⟩
         have Bf:=aK (below_step Be.out hb)
         have If:=aK (Ie.out.ofBelow hb)
         refine ⟨_,rfl,?_⟩
         refine hK.out _ _ ⟨(hb.cell (World.block_lt_of_cell? _ _ hHeld.1)).trans hHeld.1,(hb.cell (World.block_lt_of_cell? _ _ hHeld.2.1)).trans hHeld.2.1,(hb.cell (World.block_lt_of_cell? _ _ hHeld.2.2.1)).trans hHeld.2.2.1,(hb.cell (World.block_lt_of_cell? _ _ hHeld.2.2.2.1)).trans hHeld.2.2.2.1,(hb.cell (World.block_lt_of_cell? _ _ hHeld.2.2.2.2.1)).trans hHeld.2.2.2.2.1,(hb.cell (World.block_lt_of_cell? _ _ hHeld.2.2.2.2.2.1)).trans hHeld.2.2.2.2.2.1,(hb.cell (World.block_lt_of_cell? _ _ hHeld.2.2.2.2.2.2.1)).trans hHeld.2.2.2.2.2.2.1,(hb.cell (World.block_lt_of_cell? _ _ hHeld.2.2.2.2.2.2.2.1)).trans hHeld.2.2.2.2.2.2.2.1,(hb.cell (World.block_lt_of_cell? _ _ hHeld.2.2.2.2.2.2.2.2)).trans hHeld.2.2.2.2.2.2.2.2⟩ (fun hHeld=>?_)
         clear hK K
         refine norm_ (a':=?_) ?_ ?_;rotate_left;show Act.put _ (some 118) _=_;simp only [nS];rfl
         refine pu 14 (some 119) ?_ rfl rfl (by kernel_rfl) (fun _ _ _ h=>h) (.inl ⟨by rfl,?_⟩) ?_ ?_ ?_;rotate_left;intro w';go_simp;with_reducible rfl;rotate_left;simp only [nS];rfl
         refine pu 15 (some 120) ?_ rfl rfl (by kernel_rfl) (fun _ _ _ h=>h) (.inl ⟨by rfl,?_⟩) ?_ ?_ ?_;rotate_left;intro w';go_simp;with_reducible rfl;rotate_left;simp only [nS];rfl
         refine done_ (by kernel_rfl) ?_
        ·have HLT2:Aside0 (∀ j (h:j<xs.length),j<k+1→keyR xs[j]<keyR x):=⟨fun j h hj=>by
          rcases Nat.lt_or_ge j k with h3|h3
          ·exact HLT.out j h h3
          ·obtain rfl:j=k:=by omega
           rw [HY.out]
           exact (by rw [← HPXE.out,← HPYE.out];exact g1)⟩
         have HSK:=aK (show wrap64 ((k:Int)+1)=((k+1:Nat):Int) by have h1:=HXL.out;have h2:=HL2.out;unfold wrap64;omega)
         go_wp2
         go_roundg (xs.length-(k+1))
         case measure=>omega
         case rel=>exact ⟨k+1,by omega,by omega,by first|exact congrArg (Value.int .i64) HSK.out|go_num,HLT2,Bf,If⟩
        ·go_wp2
         go_meet
         case rel=>exact ⟨k,rfl,⟨hk,HLT.out,fun h=>by rw [HY.out];exact (by rw [← HPXE.out,← HPYE.out];exact g1)⟩,Bf,If⟩
       ·have hkli : ¬ (k:Int)<(xs.length:Int):=by omega
        have hkb:decide ((k:Int)<(xs.length:Int))=false:=decide_eq_false hkli
        have hkb2:decide (k<xs.length)=false:=decide_eq_false hkl
        clear BC IC
        go_upto_region 20 with (fail)
        refine start_ (n:=16) (S:=fun w'=>w'.cell? ⟨b9,2,none⟩=some (.slice A9 xs.length c9)∧w'.cell? ⟨b13,0,none⟩=some (.int .i64 x.f0)∧w'.cell? ⟨b13,1,none⟩=some (.int .i64 x.f1)∧w'.cell? ⟨b13,2,none⟩=some (.int .i64 x.f2)∧w'.cell? ⟨b13,3,none⟩=some (.int .i64 x.f3)) (ds:=[]) #[false,false,false,false,false,false,false,false,false,false,false,false,false,false,false,false] (by kernel_rfl) rfl rfl ⟨P0.out,P1.out,P2.out,P3.out,P4.out⟩ (fun hHeld=>?_)
        refine pu 0 (some 105) ?_ rfl rfl (by kernel_rfl) (fun _ _ _ h=>h) (.inl ⟨by rfl,?_⟩) ?_ ?_ ?_;rotate_left;intro w';go_simp;with_reducible rfl;rotate_left;simp only [nS];rfl
        refine pu 1 (some 106) ?_ rfl rfl (by kernel_rfl) (fun _ _ _ h=>h) (.inl ⟨by rfl,?_⟩) ?_ ?_ ?_;rotate_left;intro w';go_simp;with_reducible rfl;rotate_left;simp only [nS];rfl
        refine tk 2 (some 107) ?_ rfl rfl (by kernel_rfl) (fun _ _ _ h=>h) (.inl ⟨by rfl,?_⟩) hHeld ?_ ?_ ?_;rotate_left;rintro w' ⟨s0,s1,s2,s3,s4⟩;go_simp;with_reducible rfl;rotate_left;simp only [nS];rfl
        refine pu 3 (some 108) ?_ rfl rfl (by kernel_rfl) (fun _ _ _ h=>h) (.inl ⟨by rfl,?_⟩) ?_ ?_ ?_;rotate_left;intro w';go_simp;with_reducible rfl;rotate_left;simp only [nS];rfl
        refine pu 4 (some 109) ?_ rfl rfl (by kernel_rfl) (fun _ _ _ h=>h) (.inl ⟨by rfl,?_⟩) ?_ ?_ ?_;rotate_left;intro w';go_simp;with_reducible rfl;rotate_left;simp only [nS];rfl
        refine pu 5 (some 110) ?_ rfl rfl (by kernel_rfl) (fun _ _ _ h=>h) (.inl ⟨by rfl,?_⟩) ?_ ?_ ?_;rotate_left;intro w';go_simp;with_reducible rfl;rotate_left;simp only [nS];rfl
        refine pu 6 (some 111) undef rfl rfl (by kernel_rfl) (fun _ _ _ h=>h) (.inr ⟨by rfl,rfl⟩) ?_ ?_ ?_;rotate_left;simp only [nS];rfl
        refine pu 7 (some 112) undef rfl rfl (by kernel_rfl) (fun _ _ _ h=>h) (.inr ⟨by rfl,rfl⟩) ?_ ?_ ?_;rotate_left;simp only [nS];rfl
        refine pu 8 (some 113) undef rfl rfl (by kernel_rfl) (fun _ _ _ h=>h) (.inr ⟨by rfl,rfl⟩) ?_ ?_ ?_;rotate_left;simp only [nS];rfl
        refine pu 9 (some 114) undef rfl rfl (by kernel_rfl) (fun _ _ _ h=>h) (.inr ⟨by rfl,rfl⟩) ?_ ?_ ?_;rotate_left;simp only [nS];rfl
        refine pu 10 (some 115) undef rfl rfl (by kernel_rfl) (fun _ _ _ h=>h) (.inr ⟨by rfl,rfl⟩) ?_ ?_ ?_;rotate_left;simp only [nS];rfl
        refine pu 11 (some 116) undef rfl rfl (by kernel_rfl) (fun _ _ _ h=>h) (.inr ⟨by rfl,rfl⟩) ?_ ?_ ?_;rotate_left;simp only [nS];rfl
        refine pu 12 (some 117) undef rfl rfl (by kernel_rfl) (fun _ _ _ h=>h) (.inr ⟨by rfl,rfl⟩) ?_ ?_ ?_;rotate_left;simp only [nS];rfl
        refine pu 13 (some 118) undef rfl rfl (by kernel_rfl) (fun _ _ _ h=>h) (.inr ⟨by rfl,rfl⟩) ?_ ?_ ?_;rotate_left;simp only [nS];rfl
        refine pu 14 (some 119) undef rfl rfl (by kernel_rfl) (fun _ _ _ h=>h) (.inr ⟨by rfl,rfl⟩) ?_ ?_ ?_;rotate_left;simp only [nS];rfl
        refine pu 15 (some 120) ?_ rfl rfl (by kernel_rfl) (fun _ _ _ h=>h) (.inl ⟨by rfl,?_⟩) ?_ ?_ ?_;rotate_left;intro w';go_simp;with_reducible rfl;rotate_left;simp only [nS];rfl
        refine done_ (by kernel_rfl) ?_
        go_wp2
        go_meet
        case rel=>exact ⟨k,rfl,⟨hk,HLT.out,fun h=>absurd h hkl⟩,BD,ID⟩
     case rest =>
     obtain ⟨k,rfl,HK,B2,I2⟩:=hcut
     clear B1 I1
     go_upto_region 22 with (fail)
     go_cut [10] (fun s10 we=>s10 = .bool (t || twG keyR x xs)∧Aside0 (Below wr.heap.size wr we)∧Aside0 (OfI k45 45 w we b6 b9 b13 size xc xs #[.int .i64 size,v1,.slice A9 xs.length c9] A9 xs #[.int .i64 x.f0,.int .i64 x.f1,.int .i64 x.f2,.int .i64 x.f3]))
     case first =>
      have BD:=aK (below_drew1 B2.out)
      have ID:=aK (I2.out.ofBelow (below_drew1 (Below.refl _ _)))
      cases t with
      | true =>
       refine start_ (n:=20) (S:=fun w'=>True) (ds:=[]) #[false,false,false,false,false,false,false,false,false,false,false,false,false,false,false,false,false,false,false,false] (by kernel_rfl) rfl rfl (trivial) (fun hHeld=>?_)
       refine pu 0 (some 123) ?_ rfl rfl (by kernel_rfl) (fun _ _ _ h=>h) (.inl ⟨by rfl,?_⟩) ?_ ?_ ?_;rotate_left;intro w';go_simp;with_reducible rfl;rotate_left;simp only [nS];rfl
       refine pu 1 (some 124) ?_ rfl rfl (by kernel_rfl) (fun _ _ _ h=>h) (.inl ⟨by rfl,?_⟩) ?_ ?_ ?_;rotate_left;intro w';go_simp;with_reducible rfl;rotate_left;simp only [nS];rfl
       refine pu 2 (some 125) undef rfl rfl (by kernel_rfl) (fun _ _ _ h=>h) (.inr ⟨by rfl,rfl⟩) ?_ ?_ ?_;rotate_left;simp only [nS];rfl
       refine pu 3 (some 126) undef rfl rfl (by kernel_rfl) (fun _ _ _ h=>h) (.inr ⟨by rfl,rfl⟩) ?_ ?_ ?_;rotate_left;simp only [nS];rfl
       refine pu 4 (some 127) undef rfl rfl (by kernel_rfl) (fun _ _ _ h=>h) (.inr ⟨by rfl,rfl⟩) ?_ ?_ ?_;rotate_left;simp only [nS];rfl
       refine pu 5 (some 128) undef rfl rfl (by kernel_rfl) (fun _ _ _ h=>h) (.inr ⟨by rfl,rfl⟩) ?_ ?_ ?_;rotate_left;simp only [nS];rfl
       refine pu 6 (some 129) undef rfl rfl (by kernel_rfl) (fun _ _ _ h=>h) (.inr ⟨by rfl,rfl⟩) ?_ ?_ ?_;rotate_left;simp only [nS];rfl
       refine pu 7 (some 130) undef rfl rfl (by kernel_rfl) (fun _ _ _ h=>h) (.inr ⟨by rfl,rfl⟩) ?_ ?_ ?_;rotate_left;simp only [nS];rfl
       refine pu 8 (some 131) undef rfl rfl (by kernel_rfl) (fun _ _ _ h=>h) (.inr ⟨by rfl,rfl⟩) ?_ ?_ ?_;rotate_left;simp only [nS];rfl
       refine pu 9 (some 132) undef rfl rfl (by kernel_rfl) (fun _ _ _ h=>h) (.inr ⟨by rfl,rfl⟩) ?_ ?_ ?_;rotate_left;simp only [nS];rfl
       refine pu 10 (some 133) undef rfl rfl (by kernel_rfl) (fun _ _ _ h=>h) (.inr ⟨by rfl,rfl⟩) ?_ ?_ ?_;rotate_left;simp only [nS];rfl
       refine pu 11 (some 134) undef rfl rfl (by kernel_rfl) (fun _ _ _ h=>h) (.inr ⟨by rfl,rfl⟩) ?_ ?_ ?_;rotate_left;simp only [nS];rfl
       refine pu 12 (some 135) undef rfl rfl (by kernel_rfl) (fun _ _ _ h=>h) (.inr ⟨by rfl,rfl⟩) ?_ ?_ ?_;rotate_left;simp only [nS];rfl
       refine pu 13 (some 136) undef rfl rfl (by kernel_rfl) (fun _ _ _ h=>h) (.inr ⟨by rfl,rfl⟩) ?_ ?_ ?_;rotate_left;simp only [nS];rfl
       refine pu 14 (some 137) undef rfl rfl (by kernel_rfl) (fun _ _ _ h=>h) (.inr ⟨by rfl,rfl⟩) ?_ ?_ ?_;rotate_left;simp only [nS];rfl
       refine pu 15 (some 138) undef rfl rfl (by kernel_rfl) (fun _ _ _ h=>h) (.inr ⟨by rfl,rfl⟩) ?_ ?_ ?_;rotate_left;simp only [nS];rfl
       refine pu 16 (some 139) undef rfl rfl (by kernel_rfl) (fun _ _ _ h=>h) (.inr ⟨by rfl,rfl⟩) ?_ ?_ ?_;rotate_left;simp only [nS];rfl
       refine pu 17 (some 140) undef rfl rfl (by kernel_rfl) (fun _ _ _ h=>h) (.inr ⟨by rfl,rfl⟩) ?_ ?_ ?_;rotate_left;simp only [nS];rfl
       refine pu 18 (some 141) ?_ rfl rfl (by kernel_rfl) (fun _ _ _ h=>h) (.inl ⟨by rfl,?_⟩) ?_ ?_ ?_;rotate_left;intro w';go_simp;with_reducible rfl;rotate_left;simp only [nS];rfl
       refine pu 19 (some 10) ?_ rfl rfl (by kernel_rfl) (fun _ _ _ h=>h) (.inl ⟨by rfl,?_⟩) ?_ ?_ ?_;rotate_left;intro w';go_simp;with_reducible rfl;rotate_left;simp only [nS];rfl
       refine done_ (by kernel_rfl) ?_
       go_wp2
       go_meet
       case rel=>exact ⟨rfl,BD,ID⟩
      | false =>
       have P0:=aK ((blk_cell (blk_drew I2.out.bm) 2).trans rfl)
       have P1:=aK ((blk_cell (blk_drew I2.out.bc) 0).trans rfl)
       have P2:=aK ((blk_cell (blk_drew I2.out.bc) 1).trans rfl)
       have P3:=aK ((blk_cell (blk_drew I2.out.bc) 2).trans rfl)
       have P4:=aK ((blk_cell (blk_drew I2.out.bc) 3).trans rfl)
       clear B2 I2
       by_cases hkl:k<xs.length
       ·have hkli:(k:Int)<(xs.length:Int):=by omega
        have hk0:(0:Int)≤(k:Int):=by omega
        have hkb:decide ((k:Int)<(xs.length:Int))=true:=decide_eq_true hkli
        have hkb2:decide (k<xs.length)=true:=decide_eq_true hkl
        have htw:=twG_in keyR x xs k hkl HK.out.2.1 (HK.out.2.2 hkl)
        obtain ⟨ad9,e9,hy0,hy1,hy2,hy3⟩:=at_T45 ID.out.rc (k:Int) hk0 hkli
        simp only [Int.toNat_natCast] at hy0 hy1 hy2 hy3
        have hrd:rd_T45 xs (k:Int)=xs[k]:=by simp [rd_T45,List.getD_eq_getElem?_getD,hkl]
        rw [← hrd] at htw
        generalize rd_T45 xs (k:Int)=y at *
        have P5:=aK hy0
        have P6:=aK hy1
        have P7:=aK hy2
        have P8:=aK hy3
        subst e9
        have hpx:=fun V=>fleuronref27_pair.calls x.f0 x.f1 x.f2 x.f3 (keyR x) V rfl
        have hpy:=fun V=>fleuronref27_pair.calls y.f0 y.f1 y.f2 y.f3 (keyR y) V rfl
        generalize keyR y=py at *
        generalize keyR x=px at *
        have HPx:=aK hpx
        have HPy:=aK hpy
        clear hpx hpy
        have HTW:=aK htw
        clear hrd hy0 hy1 hy2 hy3 htw
        refine start_ (n:=20) (S:=fun w'=>w'.cell? ⟨b9,2,none⟩=some (.slice (some ad9) xs.length c9)∧w'.cell? ⟨b13,0,none⟩=some (.int .i64 x.f0)∧w'.cell? ⟨b13,1,none⟩=some (.int .i64 x.f1)∧w'.cell? ⟨b13,2,none⟩=some (.int .i64 x.f2)∧w'.cell? ⟨b13,3,none⟩=some (.int .i64 x.f3)∧w'.cell? (ad9.add (k*4))=some (.int .i64 y.f0)∧w'.cell? ⟨(ad9.add (k*4)).block,(ad9.add (k*4)).off+1,none⟩=some (.int .i64 y.f1)∧w'.cell? ⟨(ad9.add (k*4)).block,(ad9.add (k*4)).off+2,none⟩=some (.int .i64 y.f2)∧w'.cell? ⟨(ad9.add (k*4)).block,(ad9.add (k*4)).off+3,none⟩=some (.int .i64 y.f3)) (ds:=[]) #[false,false,false,false,false,false,false,false,false,false,false,false,false,false,false,false,false,false,false,false] (by kernel_rfl) rfl rfl ⟨P0.out,P1.out,P2.out,P3.out,P4.out,P5.out,P6.out,P7.out,P8.out⟩ (fun hHeld=>?_)
        refine pu 0 (some 123) ?_ rfl rfl (by kernel_rfl) (fun _ _ _ h=>h) (.inl ⟨by rfl,?_⟩) ?_ ?_ ?_;rotate_left;intro w';go_simp;with_reducible rfl;rotate_left;simp only [nS];rfl
        refine pu 1 (some 124) ?_ rfl rfl (by kernel_rfl) (fun _ _ _ h=>h) (.inl ⟨by rfl,?_⟩) ?_ ?_ ?_;rotate_left;intro w';go_simp;with_reducible rfl;rotate_left;simp only [nS];rfl
        refine pu 2 (some 125) ?_ rfl rfl (by kernel_rfl) (fun _ _ _ h=>h) (.inl ⟨by rfl,?_⟩) ?_ ?_ ?_;rotate_left;intro w';go_simp;with_reducible rfl;rotate_left;simp only [nS];rfl
        refine pu 3 (some 126) ?_ rfl rfl (by kernel_rfl) (fun _ _ _ h=>h) (.inl ⟨by rfl,?_⟩) ?_ ?_ ?_;rotate_left;intro w';go_simp;with_reducible rfl;rotate_left;simp only [nS];rfl
        refine tk 4 (some 127) ?_ rfl rfl (by kernel_rfl) (fun _ _ _ h=>h) (.inl ⟨by rfl,?_⟩) hHeld ?_ ?_ ?_;rotate_left;rintro w' ⟨s0,s1,s2,s3,s4,s5,s6,s7,s8⟩;go_simp;with_reducible rfl;rotate_left;simp only [nS];rfl
        refine pu 5 (some 128) ?_ rfl rfl (by kernel_rfl) (fun _ _ _ h=>h) (.inl ⟨by rfl,?_⟩) ?_ ?_ ?_;rotate_left;intro w';go_simp;with_reducible rfl;rotate_left;simp only [nS];rfl
        refine pu 6 (some 129) ?_ rfl rfl (by kernel_rfl) (fun _ _ _ h=>h) (.inl ⟨by rfl,?_⟩) ?_ ?_ ?_;rotate_left;intro w';go_simp;with_reducible rfl;rotate_left;simp only [nS];rfl
        refine pu 7 (some 130) ?_ rfl rfl (by kernel_rfl) (fun _ _ _ h=>h) (.inl ⟨by rfl,?_⟩) ?_ ?_ ?_;rotate_left;intro w';go_simp;with_reducible rfl;rotate_left;simp only [nS];rfl
        refine pu 8 (some 131) ?_ rfl rfl (by kernel_rfl) (fun _ _ _ h=>h) (.inl ⟨by rfl,?_⟩) ?_ ?_ ?_;rotate_left;intro w';go_simp;with_reducible rfl;rotate_left;simp only [nS];rfl
        refine pu 10 (some 133) ?_ rfl rfl (by kernel_rfl) (fun _ _ _ h=>h) (.inl ⟨by rfl,?_⟩) ?_ ?_ ?_;rotate_left;intro w';go_simp;with_reducible rfl;rotate_left;simp only [nS];rfl
        refine tk 9 (some 132) ?_ rfl rfl (by kernel_rfl) (fun _ _ _ h=>h) (.inl ⟨by rfl,?_⟩) hHeld ?_ ?_ ?_;rotate_left;rintro w' ⟨s0,s1,s2,s3,s4,s5,s6,s7,s8⟩;go_simp;with_reducible rfl;rotate_left;simp only [nS];rfl
        refine pu 11 (some 134) ?_ rfl rfl (by kernel_rfl) (fun _ _ _ h=>h) (.inl ⟨by rfl,?_⟩) ?_ ?_ ?_;rotate_left;intro w';go_simp;with_reducible rfl;rotate_left;simp only [nS];rfl
        refine tk 12 (some 135) ?_ rfl rfl (by kernel_rfl) (fun _ _ _ h=>h) (.inl ⟨by rfl,?_⟩) hHeld ?_ ?_ ?_;rotate_left;rintro w' ⟨s0,s1,s2,s3,s4,s5,s6,s7,s8⟩;go_simp;with_reducible rfl;rotate_left;simp only [nS];rfl
        refine tk 14 (some 137) ?_ rfl rfl (by kernel_rfl) (fun _ _ _ h=>h) (.inl ⟨by rfl,?_⟩) hHeld ?_ ?_ ?_;rotate_left;rintro w' ⟨s0,s1,s2,s3,s4,s5,s6,s7,s8⟩;go_simp;with_reducible rfl;rotate_left;simp only [nS];rfl
        refine one_ (i:=13) (N:=some 136) #[true,true,true,true,true,true,true,true,true,true,true,true,true,true,true,false,false,false,false,false] rfl rfl (by kernel_rfl) (by decide) (fun K hK=>?_)
        refine goes_ Tryz.func57 (by kernel_rfl) rfl #[.agg #[.int .i64 y.f0,.int .i64 y.f1,.int .i64 y.f2,.int .i64 y.f3]] (by rfl) rfl rfl (by simp only [List.map_toArray,List.map_cons,List.map_nil];rfl) ?_
        refine (HPy.out _).mono ?_
        rintro e We ⟨rfl,hb⟩
        have Be:=aK (below_step BD.out hb)
        have Ie:=aK (ID.out.ofBelow hb)
        refine ⟨_,rfl,?_⟩
        refine hK.out _ _ ⟨(hb.cell (World.block_lt_of_cell? _ _ hHeld.1)).trans hHeld.1,(hb.cell (World.block_lt_of_cell? _ _ hHeld.2.1)).trans hHeld.2.1,(hb.cell (World.block_lt_of_cell? _ _ hHeld.2.2.1)).trans hHeld.2.2.1,(hb.cell (World.block_lt_of_cell? _ _ hHeld.2.2.2.1)).trans hHeld.2.2.2.1,(hb.cell (World.block_lt_of_cell? _ _ hHeld.2.2.2.2.1)).trans hHeld.2.2.2.2.1,(hb.cell (World.block_lt_of_cell? _ _ hHeld.2.2.2.2.2.1)).trans hHeld.2.2.2.2.2.1,(hb.cell (World.block_lt_of_cell? _ _ hHeld.2.2.2.2.2.2.1)).trans hHeld.2.2.2.2.2.2.1,(hb.cell (World.block_lt_of_cell? _ _ hHeld.2.2.2.2.2.2.2.1)).trans hHeld.2.2.2.2.2.2.2.1,(hb.cell (World.block_lt_of_cell? _ _ hHeld.2.2.2.2.2.2.2.2)).trans hHeld.2.2.2.2.2.2.2.2⟩ (fun hHeld=>?_)
        clear hK K
        refine norm_ (a':=?_) ?_ ?_;rotate_left;show Act.put _ (some 136) _=_;simp only [nS];rfl
        refine one_ (i:=15) (N:=some 138) #[true,true,true,true,true,true,true,true,true,true,true,true,true,true,true,true,false,false,false,false] rfl rfl (by kernel_rfl) (by decide) (fun K hK=>?_)
        refine goes_ Tryz.func57 (by kernel_rfl) rfl #[.agg #[.int .i64 x.f0,.int .i64 x.f1,.int .i64 x.f2,.int .i64 x.f3]] (by rfl) rfl rfl (by simp only [List.map_toArray,List.map_cons,List.map_nil];rfl) ?_
        refine (HPx.out _).mono ?_
        rintro e Wf ⟨rfl,hb⟩
        have Bf:=aK (below_step Be.out hb)
        have If:=aK (Ie.out.ofBelow hb)
        refine ⟨_,rfl,?_⟩
        refine hK.out _ _ ⟨(hb.cell (World.block_lt_of_cell? _ _ hHeld.1)).trans hHeld.1,(hb.cell (World.block_lt_of_cell? _ _ hHeld.2.1)).trans hHeld.2.1,(hb.cell (World.block_lt_of_cell? _ _ hHeld.2.2.1)).trans hHeld.2.2.1,(hb.cell (World.block_lt_of_cell? _ _ hHeld.2.2.2.1)).trans hHeld.2.2.2.1,(hb.cell (World.block_lt_of_cell? _ _ hHeld.2.2.2.2.1)).trans hHeld.2.2.2.2.1,(hb.cell (World.block_lt_of_cell? _ _ hHeld.2.2.2.2.2.1)).trans hHeld.2.2.2.2.2.1,(hb.cell (World.block_lt_of_cell? _ _ hHeld.2.2.2.2.2.2.1)).trans hHeld.2.2.2.2.2.2.1,(hb.cell (World.block_lt_of_cell? _ _ hHeld.2.2.2.2.2.2.2.1)).trans hHeld.2.2.2.2.2.2.2.1,(hb.cell (World.block_lt_of_cell? _ _ hHeld.2.2.2.2.2.2.2.2)).trans hHeld.2.2.2.2.2.2.2.2⟩ (fun hHeld=>?_)
        clear hK K
        refine norm_ (a':=?_) ?_ ?_;rotate_left;show Act.put _ (some 138) _=_;simp only [nS];rfl
        refine pu 16 (some 139) ?_ rfl rfl (by kernel_rfl) (fun _ _ _ h=>h) (.inl ⟨by rfl,?_⟩) ?_ ?_ ?_;rotate_left;intro w';go_simp;with_reducible rfl;rotate_left;simp only [nS];rfl
        refine pu 17 (some 140) ?_ rfl rfl (by kernel_rfl) (fun _ _ _ h=>h) (.inl ⟨by rfl,?_⟩) ?_ ?_ ?_;rotate_left;intro w';go_simp;with_reducible rfl;rotate_left;simp only [nS];rfl
        refine pu 18 (some 141) ?_ rfl rfl (by kernel_rfl) (fun _ _ _ h=>h) (.inl ⟨by rfl,?_⟩) ?_ ?_ ?_;rotate_left;intro w';go_simp;with_reducible rfl;rotate_left;simp only [nS];rfl
        refine pu 19 (some 10) ?_ rfl rfl (by kernel_rfl) (fun _ _ _ h=>h) (.inl ⟨by rfl,?_⟩) ?_ ?_ ?_;rotate_left;intro w';go_simp;with_reducible rfl;rotate_left;simp only [nS];rfl
        refine done_ (by kernel_rfl) ?_
        go_wp2
        go_meet
        case rel=>exact ⟨congrArg Value.bool (by rw [HTW.out];rfl),Bf,If⟩
       ·have hkli : ¬ (k:Int)<(xs.length:Int):=by omega
        have hkb:decide ((k:Int)<(xs.length:Int))=false:=decide_eq_false hkli
        have hkb2:decide (k<xs.length)=false:=decide_eq_false hkl
        have HTW:=aK (twG_out keyR x xs (fun j h=>HK.out.2.1 j h (by omega)))
        refine start_ (n:=20) (S:=fun w'=>w'.cell? ⟨b9,2,none⟩=some (.slice A9 xs.length c9)∧w'.cell? ⟨b13,0,none⟩=some (.int .i64 x.f0)∧w'.cell? ⟨b13,1,none⟩=some (.int .i64 x.f1)∧w'.cell? ⟨b13,2,none⟩=some (.int .i64 x.f2)∧w'.cell? ⟨b13,3,none⟩=some (.int .i64 x.f3)) (ds:=[]) #[false,false,false,false,false,false,false,false,false,false,false,false,false,false,false,false,false,false,false,false] (by kernel_rfl) rfl rfl ⟨P0.out,P1.out,P2.out,P3.out,P4.out⟩ (fun hHeld=>?_)
        refine pu 0 (some 123) ?_ rfl rfl (by kernel_rfl) (fun _ _ _ h=>h) (.inl ⟨by rfl,?_⟩) ?_ ?_ ?_;rotate_left;intro w';go_simp;with_reducible rfl;rotate_left;simp only [nS];rfl
        refine pu 1 (some 124) ?_ rfl rfl (by kernel_rfl) (fun _ _ _ h=>h) (.inl ⟨by rfl,?_⟩) ?_ ?_ ?_;rotate_left;intro w';go_simp;with_reducible rfl;rotate_left;simp only [nS];rfl
        refine pu 2 (some 125) ?_ rfl rfl (by kernel_rfl) (fun _ _ _ h=>h) (.inl ⟨by rfl,?_⟩) ?_ ?_ ?_;rotate_left;intro w';go_simp;with_reducible rfl;rotate_left;simp only [nS];rfl
        refine pu 3 (some 126) ?_ rfl rfl (by kernel_rfl) (fun _ _ _ h=>h) (.inl ⟨by rfl,?_⟩) ?_ ?_ ?_;rotate_left;intro w';go_simp;with_reducible rfl;rotate_left;simp only [nS];rfl
        refine tk 4 (some 127) ?_ rfl rfl (by kernel_rfl) (fun _ _ _ h=>h) (.inl ⟨by rfl,?_⟩) hHeld ?_ ?_ ?_;rotate_left;rintro w' ⟨s0,s1,s2,s3,s4⟩;go_simp;with_reducible rfl;rotate_left;simp only [nS];rfl
        refine pu 5 (some 128) ?_ rfl rfl (by kernel_rfl) (fun _ _ _ h=>h) (.inl ⟨by rfl,?_⟩) ?_ ?_ ?_;rotate_left;intro w';go_simp;with_reducible rfl;rotate_left;simp only [nS];rfl
        refine pu 6 (some 129) ?_ rfl rfl (by kernel_rfl) (fun _ _ _ h=>h) (.inl ⟨by rfl,?_⟩) ?_ ?_ ?_;rotate_left;intro w';go_simp;with_reducible rfl;rotate_left;simp only [nS];rfl
        refine pu 7 (some 130) ?_ rfl rfl (by kernel_rfl) (fun _ _ _ h=>h) (.inl ⟨by rfl,?_⟩) ?_ ?_ ?_;rotate_left;intro w';go_simp;with_reducible rfl;rotate_left;simp only [nS];rfl
        refine pu 8 (some 131) undef rfl rfl (by kernel_rfl) (fun _ _ _ h=>h) (.inr ⟨by rfl,rfl⟩) ?_ ?_ ?_;rotate_left;simp only [nS];rfl
        refine pu 9 (some 132) undef rfl rfl (by kernel_rfl) (fun _ _ _ h=>h) (.inr ⟨by rfl,rfl⟩) ?_ ?_ ?_;rotate_left;simp only [nS];rfl
        refine pu 10 (some 133) undef rfl rfl (by kernel_rfl) (fun _ _ _ h=>h) (.inr ⟨by rfl,rfl⟩) ?_ ?_ ?_;rotate_left;simp only [nS];rfl
        refine pu 11 (some 134) undef rfl rfl (by kernel_rfl) (fun _ _ _ h=>h) (.inr ⟨by rfl,rfl⟩) ?_ ?_ ?_;rotate_left;simp only [nS];rfl
        refine pu 12 (some 135) undef rfl rfl (by kernel_rfl) (fun _ _ _ h=>h) (.inr ⟨by rfl,rfl⟩) ?_ ?_ ?_;rotate_left;simp only [nS];rfl
        refine pu 13 (some 136) undef rfl rfl (by kernel_rfl) (fun _ _ _ h=>h) (.inr ⟨by rfl,rfl⟩) ?_ ?_ ?_;rotate_left;simp only [nS];rfl
        refine pu 14 (some 137) undef rfl rfl (by kernel_rfl) (fun _ _ _ h=>h) (.inr ⟨by rfl,rfl⟩) ?_ ?_ ?_;rotate_left;simp only [nS];rfl
        refine pu 15 (some 138) undef rfl rfl (by kernel_rfl) (fun _ _ _ h=>h) (.inr ⟨by rfl,rfl⟩) ?_ ?_ ?_;rotate_left;simp only [nS];rfl
        refine pu 16 (some 139) undef rfl rfl (by kernel_rfl) (fun _ _ _ h=>h) (.inr ⟨by rfl,rfl⟩) ?_ ?_ ?_;rotate_left;simp only [nS];rfl
        refine pu 17 (some 140) ?_ rfl rfl (by kernel_rfl) (fun _ _ _ h=>h) (.inl ⟨by rfl,?_⟩) ?_ ?_ ?_;rotate_left;intro w';go_simp;with_reducible rfl;rotate_left;simp only [nS];rfl
        refine pu 18 (some 141) ?_ rfl rfl (by kernel_rfl) (fun _ _ _ h=>h) (.inl ⟨by rfl,?_⟩) ?_ ?_ ?_;rotate_left;intro w';go_simp;with_reducible rfl;rotate_left;simp only [nS];rfl
        refine pu 19 (some 10) ?_ rfl rfl (by kernel_rfl) (fun _ _ _ h=>h) (.inl ⟨by rfl,?_⟩) ?_ ?_ ?_;rotate_left;intro w';go_simp;with_reducible rfl;rotate_left;simp only [nS];rfl
        refine done_ (by kernel_rfl) ?_
        go_wp2
        go_meet
        case rel=>exact ⟨congrArg Value.bool (by rw [HTW.out];rfl),BD,ID⟩
     case rest =>
     obtain ⟨rfl,B3,I3⟩:=hcut
     clear B2 I2
     have B4:=aK (below_step I3.out.ms.base.below (below_drew1 (Below.refl _ _)))
     have I4:=aK (I3.out.ofBelow (below_drew1 (Below.refl _ _)))
     have P0:=aK ((blk_cell (blk_drew I3.out.bm) 2).trans rfl)
     have P1:=aK ((blk_cell (blk_drew I3.out.bc) 0).trans rfl)
     have P2:=aK ((blk_cell (blk_drew I3.out.bc) 1).trans rfl)
     have P3:=aK ((blk_cell (blk_drew I3.out.bc) 2).trans rfl)
     have P4:=aK ((blk_cell (blk_drew I3.out.bc) 3).trans rfl)
     have HINS:=aK (insG_at keyR x xs k HK.out.1 HK.out.2.1 HK.out.2.2)
     have HKL:=aK HK.out.1
     have HLN:Aside0 (xs.length≤1000000):=⟨by have h1:=HXL.out;have h2:=HL2.out;omega⟩
     obtain ⟨i0,hi0',hz0,hsz,hby⟩:=info_parts info45
     have hcA:=cut_same (P:=Tryz.prog) 23 45 .i64 .i64 Tryz.underlying23 hi0' A9 xs.length c9 (k:Int) (by omega) (by have:=HKL.out;omega) HC9.out
     have hcB:=cut_from (P:=Tryz.prog) 23 45 .i64 Tryz.underlying23 hi0' 4 hsz A9 xs.length c9 (k:Int) (by omega) (by have:=HKL.out;omega)
     simp only [Int.toNat_natCast] at hcA hcB
     obtain ⟨A63,hA63⟩ : ∃ A1,(if c9=k then A9 else A9.map (·.add (k*4)))=A1:=⟨_,rfl⟩
     rw [hA63] at hcB
     have HC63:=aK (show Kd.C k45 _ A63 (xs.length-k) (xs.drop k) by have:=Kd.C_drop (k:=k45) I4.out.rc HKL.out HC9.out;rw [List.length_drop] at this;rw [← hA63];exact this)
     have HCT:=aK (show Kd.C k45 _ A9 k (xs.take k) by have:=Kd.C_take (k:=k45) I4.out.rc HKL.out;rw [List.length_take,Nat.min_eq_left HKL.out] at this;exact this)
     obtain ⟨c63,hc63⟩ : ∃ c1,c9-k=c1:=⟨_,rfl⟩
     rw [hc63] at hcB
     clear hA63 hc63 hi0' hz0 hsz hby I3 B3 HK
     go_upto_region 23 with (fail)
     refine start_ (n:=15) (S:=fun w'=>w'.cell? ⟨b9,2,none⟩=some (.slice A9 xs.length c9)∧w'.cell? ⟨b13,0,none⟩=some (.int .i64 x.f0)∧w'.cell? ⟨b13,1,none⟩=some (.int .i64 x.f1)∧w'.cell? ⟨b13,2,none⟩=some (.int .i64 x.f2)∧w'.cell? ⟨b13,3,none⟩=some (.int .i64 x.f3)) (ds:=[14]) #[false,false,false,false,false,false,false,false,false,false,false,false,false,false,false] (by kernel_rfl) rfl rfl ⟨P0.out,P1.out,P2.out,P3.out,P4.out⟩ (fun hHeld=>?_)
     refine pu 0 (some 142) ?_ rfl rfl (by kernel_rfl) (fun _ _ _ h=>h) (.inl ⟨by rfl,?_⟩) ?_ ?_ ?_;rotate_left;intro w';go_simp;with_reducible rfl;rotate_left;simp only [nS];rfl
     refine pu 2 (some 144) ?_ rfl rfl (by kernel_rfl) (fun _ _ _ h=>h) (.inl ⟨by rfl,?_⟩) ?_ ?_ ?_;rotate_left;intro w';go_simp;with_reducible rfl;rotate_left;simp only [nS];rfl
     refine pu 3 (some 145) ?_ rfl rfl (by kernel_rfl) (fun _ _ _ h=>h) (.inl ⟨by rfl,?_⟩) ?_ ?_ ?_;rotate_left;intro w';go_simp;with_reducible rfl;rotate_left;simp only [nS];rfl
     refine pu 7 (some 149) ?_ rfl rfl (by kernel_rfl) (fun _ _ _ h=>h) (.inl ⟨by rfl,?_⟩) ?_ ?_ ?_;rotate_left;intro w';go_simp;with_reducible rfl;rotate_left;simp only [nS];rfl
     refine pu 9 (some 151) ?_ rfl rfl (by kernel_rfl) (fun _ _ _ h=>h) (.inl ⟨by rfl,?_⟩) ?_ ?_ ?_;rotate_left;intro w';go_simp;with_reducible rfl;rotate_left;simp only [nS];rfl
     refine tk 1 (some 143) ?_ rfl rfl (by kernel_rfl) (fun _ _ _ h=>h) (.inl ⟨by rfl,?_⟩) hHeld ?_ ?_ ?_;rotate_left;rintro w' ⟨s0,s1,s2,s3,s4⟩;go_simp;with_reducible rfl;rotate_left;simp only [nS];rfl
     refine pu 4 (some 146) ?_ rfl rfl (by kernel_rfl) (fun _ _ _ h=>h) (.inl ⟨by rfl,?_⟩) ?_ ?_ ?_;rotate_left;intro w';go_simp;with_reducible rfl;rotate_left;simp only [nS];rfl
     refine tk 5 (some 147) ?_ rfl rfl (by kernel_rfl) (fun _ _ _ h=>h) (.inl ⟨by rfl,?_⟩) hHeld ?_ ?_ ?_;rotate_left;rintro w' ⟨s0,s1,s2,s3,s4⟩;go_simp;with_reducible rfl;rotate_left;simp only [nS];rfl
     refine tk 8 (some 150) ?_ rfl rfl (by kernel_rfl) (fun _ _ _ h=>h) (.inl ⟨by rfl,?_⟩) hHeld ?_ ?_ ?_;rotate_left;rintro w' ⟨s0,s1,s2,s3,s4⟩;go_simp;with_reducible rfl;rotate_left;simp only [nS];rfl
     refine pu 10 (some 152) ?_ rfl rfl (by kernel_rfl) (fun _ _ _ h=>h) (.inl ⟨by rfl,?_⟩) ?_ ?_ ?_;rotate_left;intro w';go_simp;with_reducible rfl;rotate_left;simp only [nS];rfl
     refine one_ (i:=6) (N:=some 148) #[true,true,true,true,true,true,true,true,true,true,true,false,false,false,false] rfl rfl (by kernel_rfl) (by decide) (fun K hK=>?_)
     refine Kd.R_lit_step k45 _ 45 ?hg (N:=148) ?hd (xs:=[x]) (inner:=[.int .i64 x.f0,.int .i64 x.f1,.int .i64 x.f2,.int .i64 x.f3]) (ok:=fun _=>True) (okp:=fun _=>False) ?hr ?hp (fun _ _=>trivial) trivial (Below.refl _ _) (Nat.le_refl _) (by simp) ?_
     case hd=>rfl
     case hg=>rfl
     case hr=>first|(go_simp;done)|(go_simp;rfl)
     case hp=>exact Reps.c4 (k45_mkM _ _ _ x) (Reps.none _ _)
     intro v60 w7 ho7 hb7 hg7 hat7
     have HO7:=aK ho7
     have HB7:=aK hb7
     clear ho7 hb7 hg7 hat7
     refine hK.out _ _ ⟨(HB7.out.cell (World.block_lt_of_cell? _ _ P0.out)).trans P0.out,(HB7.out.cell (World.block_lt_of_cell? _ _ P1.out)).trans P1.out,(HB7.out.cell (World.block_lt_of_cell? _ _ P2.out)).trans P2.out,(HB7.out.cell (World.block_lt_of_cell? _ _ P3.out)).trans P3.out,(HB7.out.cell (World.block_lt_of_cell? _ _ P4.out)).trans P4.out⟩ (fun hHeld=>?_)
     clear hK K
     refine norm_ (a':=?_) ?_ ?_;rotate_left;show Act.put _ (some 148) _=_;simp only [nS];rfl
     refine one_ (i:=11) (N:=some 153) #[true,true,true,true,true,true,true,true,true,true,true,true,false,false,false] rfl rfl (by kernel_rfl) (by decide) (fun K hK=>?_)
     refine Kd.R_append_rows_step k45 _ (by rfl) (.tmp 148) (.tmp 152) 23 45 (.agg #[.int .i64 0,.int .i64 0,.int .i64 0,.int .i64 0]) 32 rfl Tryz.underlying23 info45 rfl (by decide) (by omega) v60 [x] (xs.drop k) A63 _ c63 (fun _=>True) (fun _=>False) rfl rfl HO7.out (Kd.C_below HC63.out HB7.out) (fun y cs h=>flatR _ y cs h _ _ _) (fun _ h=>h.elim) (fun _ _=>trivial) HB7.out HB7.out.size ?aL ?_
     case aL=>have:=HLN.out;simp only [List.length_singleton];omega
     intro v64 w9 ho9 hb9 hg9 hat9
     have HO9:=aK ho9
     have HB9:=aK hb9
     clear ho9 hb9 hg9 hat9 HO7 HB7
     refine hK.out _ _ ⟨(HB9.out.cell (World.block_lt_of_cell? _ _ P0.out)).trans P0.out,(HB9.out.cell (World.block_lt_of_cell? _ _ P1.out)).trans P1.out,(HB9.out.cell (World.block_lt_of_cell? _ _ P2.out)).trans P2.out,(HB9.out.cell (World.block_lt_of_cell? _ _ P3.out)).trans P3.out,(HB9.out.cell (World.block_lt_of_cell? _ _ P4.out)).trans P4.out⟩ (fun hHeld=>?_)
     clear hK K
     refine norm_ (a':=?_) ?_ ?_;rotate_left;show Act.put _ (some 153) _=_;simp only [nS];rfl
     refine one_ (i:=12) (N:=some 154) #[true,true,true,true,true,true,true,true,true,true,true,true,true,false,false] rfl rfl (by kernel_rfl) (by decide) (fun K hK=>?_)
     obtain ⟨A64,c64,rfl,hc64,hC64⟩:=Kd.R_reads HO9.out
     have HC64:=aK hC64
     clear hC64 hc64
     refine cut_append_step k45 flatR rfl (.tmp 146) (.tmp 153) 23 rfl 45 (.agg #[.int .i64 0,.int .i64 0,.int .i64 0,.int .i64 0]) 32 Tryz.underlying23 info45 rfl (by decide) A9 k (xs.take k) rfl (Kd.C_below HCT.out HB9.out) A64 ([x]++xs.drop k).length c64 ([x]++xs.drop k) rfl HC64.out (by simp) ?aB1 ?aB2 w.heap.size (Nat.le_trans B4.out.size HB9.out.size) (fun _=>True) (fun _ _=>trivial) ?_
     case aB1=>have:=HLN.out;have:=HKL.out;simp [maxLen];omega
     case aB2=>have:=HLN.out;have:=HKL.out;simp;omega
     intro v65 w10 ho10 hgrow
     rw [← HINS.out] at ho10
     have HO10:=aK ho10
     have HB10:=aK (HB9.out.grown hgrow HB9.out.size (fun k hk=>by cases hk))
     obtain ⟨A65,c65,rfl⟩:=Kd.R_slice ho10
     clear hgrow HO9 HB9 HC64 ho10
     refine hK.out _ _ ⟨(HB10.out.cell (World.block_lt_of_cell? _ _ P0.out)).trans P0.out,(HB10.out.cell (World.block_lt_of_cell? _ _ P1.out)).trans P1.out,(HB10.out.cell (World.block_lt_of_cell? _ _ P2.out)).trans P2.out,(HB10.out.cell (World.block_lt_of_cell? _ _ P3.out)).trans P3.out,(HB10.out.cell (World.block_lt_of_cell? _ _ P4.out)).trans P4.out⟩ (fun hHeld=>?_)
     clear hK K
     refine norm_ (a':=?_) ?_ ?_;rotate_left;show Act.put _ (some 154) _=_;simp only [nS];rfl
     refine pu 13 (some 155) ?_ rfl rfl (by kernel_rfl) (fun _ _ _ h=>h) (.inl ⟨by rfl,?_⟩) ?_ ?_ ?_;rotate_left;intro w';go_simp;with_reducible rfl;rotate_left;simp only [nS];rfl
     refine last_ (i:=14) (N:=none) #[true,true,true,true,true,true,true,true,true,true,true,true,true,true,true] rfl rfl (by kernel_rfl) (by decide) (fun K hK=>?_)
     have f1:=(HB10.out.cell (World.block_lt_of_cell? _ _ P0.out)).trans P0.out
     have f2:=blk_frozen (I4.out.ofBelow HB10.out).bm 2
     refine skip_ (w1:=?_) (by rfl) rfl ?_ ?_
     rotate_left
     ·go_simp
      rfl
     refine hK.out _ _ ?_
     clear hK K
     refine done_ (by kernel_rfl) ?_
     have J9:=aK ((I4.out.ms.ofBelow HB10.out).putR ⟨Nat.le_refl _,fun _ _ _=>rfl⟩ (below_step B4.out HB10.out) HO10.out)
     go_wp2
     go_roundg (ls.length-(i+1))
     case measure=>omega
     case rel=>exact ⟨i+1,_,_,by omega,by omega,rfl,rfl,by first|exact congrArg (Value.int .i64) HSTEP.out|go_num,⟨by rw [HA.out,← Bool.and_assoc,← HBB.out]⟩,⟨by rw [HTT.out,HN.out];exact Bool.or_assoc _ _ _⟩,⟨by rw [HN.out];exact J9.out⟩⟩
    ·have hlti : ¬ (i:Int)<(ls.length:Int):=by omega
     obtain rfl:i=ls.length:=by omega
     have hlen:ls.take ls.length=ls:=List.take_length
     rw [hlen] at HBB HTT J
     go_wp2
     go_meet
     case rel=>exact ⟨b,t,rfl,rfl,HBB,HTT,J⟩
  case rest =>
   obtain ⟨b2,t2,rfl,rfl,HB2,HT2,J2⟩:=hcut
   clear J1
   have HFF:Aside0 (r=if b2 then (if decide (gs.length≤256) && decide (ls.length≤500) then (if t2 then (0,[],[],14) else (size,xc,(ofG keyR ls).1,0)) else (0,[],[],3)) else (0,[],[],2)):=⟨by rw [HF.out,ofR,HB2.out,HB1.out,HSB.out,HT2.out,HT1.out,HXC.out,Bool.and_assoc,HCL.out]⟩
   clear HF HB2 HB1 HT2 HT1 HXC HSB HCL HCS
   have I9:=aK J2.out.base
   generalize (ofG keyR ls).1=xr at *
   cases b2 with
   | false =>
    have HO:Aside0 (r=(0,[],[],2)):=⟨by rw [HFF.out];rfl⟩
    clear HFF J2
    have q0:=blk_frozen I9.out.res 0
    have q1:=blk_frozen I9.out.res 1
    have q2:=blk_frozen I9.out.res 2
    have q3:=(blk_cell I9.out.res 0).trans rfl
    have q4:=(blk_cell I9.out.res 1).trans rfl
    have q5:=(blk_cell I9.out.res 2).trans rfl
    have X3:=aK (blk_put (blk_put (blk_put I9.out.res 0 (.int .i64 0) rfl) 1 (.slice none 0 0) rfl) 2 (.slice none 0 0) rfl)
    go_wp2
    refine bodyPost_ret (results_ct rfl _ _ b6 25 #[.int .i64 0,.slice none 0 0,.slice none 0 0] (0,0) _ rfl X3.out Tryz.underlying25 rfl (by kernel_rfl)) rfl ?_
    rw [HO.out]
    exact ⟨.slice none 0 0,.slice none 0 0,rfl,Kd.R_nil _ _ _ _ _,Kd.R_nil _ _ _ _ _,below_set (below_set (below_set I9.out.below I9.out.le) I9.out.le) I9.out.le⟩
   | true =>
   by_cases hg:gs.length≤256
   case neg =>
    have g1:(256:Int)<(gs.length:Int):=by omega
    have g2:decide ((256:Int)<(gs.length:Int))=true:=decide_eq_true g1
    have g3:decide (256<gs.length)=true:=decide_eq_true (by omega)
    have HO:Aside0 (r=(0,[],[],3)):=⟨by rw [HFF.out,decide_eq_false hg];rfl⟩
    clear HFF J2
    have q0:=blk_frozen I9.out.res 0
    have q1:=blk_frozen I9.out.res 1
    have q2:=blk_frozen I9.out.res 2
    have q3:=(blk_cell I9.out.res 0).trans rfl
    have q4:=(blk_cell I9.out.res 1).trans rfl
    have q5:=(blk_cell I9.out.res 2).trans rfl
    have X3:=aK (blk_put (blk_put (blk_put I9.out.res 0 (.int .i64 0) rfl) 1 (.slice none 0 0) rfl) 2 (.slice none 0 0) rfl)
    go_wp2
    refine bodyPost_ret (results_ct rfl _ _ b6 25 #[.int .i64 0,.slice none 0 0,.slice none 0 0] (0,0) _ rfl X3.out Tryz.underlying25 rfl (by kernel_rfl)) rfl ?_
    rw [HO.out]
    exact ⟨.slice none 0 0,.slice none 0 0,rfl,Kd.R_nil _ _ _ _ _,Kd.R_nil _ _ _ _ _,below_set (below_set (below_set I9.out.below I9.out.le) I9.out.le) I9.out.le⟩
   have g1 : ¬ (256:Int)<(gs.length:Int):=by omega
   have g2:decide ((256:Int)<(gs.length:Int))=false:=decide_eq_false g1
   have g3:decide (256<gs.length)=false:=decide_eq_false (by omega)
   by_cases hr:ls.length≤500
   case neg =>
    have g4:(500:Int)<(ls.length:Int):=by omega
    have g5:decide ((500:Int)<(ls.length:Int))=true:=decide_eq_true g4
    have g6:decide (500<ls.length)=true:=decide_eq_true (by omega)
    have HO:Aside0 (r=(0,[],[],3)):=⟨by rw [HFF.out,decide_eq_false hr,Bool.and_false];rfl⟩
    clear HFF J2
    have q0:=blk_frozen I9.out.res 0
    have q1:=blk_frozen I9.out.res 1
    have q2:=blk_frozen I9.out.res 2
    have q3:=(blk_cell I9.out.res 0).trans rfl
    have q4:=(blk_cell I9.out.res 1).trans rfl
    have q5:=(blk_cell I9.out.res 2).trans rfl
    have X3:=aK (blk_put (blk_put (blk_put I9.out.res 0 (.int .i64 0) rfl) 1 (.slice none 0 0) rfl) 2 (.slice none 0 0) rfl)
    go_wp2
    refine bodyPost_ret (results_ct rfl _ _ b6 25 #[.int .i64 0,.slice none 0 0,.slice none 0 0] (0,0) _ rfl X3.out Tryz.underlying25 rfl (by kernel_rfl)) rfl ?_
    rw [HO.out]
    exact ⟨.slice none 0 0,.slice none 0 0,rfl,Kd.R_nil _ _ _ _ _,Kd.R_nil _ _ _ _ _,below_set (below_set (below_set I9.out.below I9.out.le) I9.out.le) I9.out.le⟩
   have g4 : ¬ (500:Int)<(ls.length:Int):=by omega
   have g5:decide ((500:Int)<(ls.length:Int))=false:=decide_eq_false g4
   have g6:decide (500<ls.length)=false:=decide_eq_false (by omega)
   rw [decide_eq_true hg,decide_eq_true hr] at HFF
   clear hg hr
   cases t2 with
   | true =>
    have HO:Aside0 (r=(0,[],[],14)):=⟨by rw [HFF.out];rfl⟩
    clear HFF J2
    have q0:=blk_frozen I9.out.res 0
    have q1:=blk_frozen I9.out.res 1
    have q2:=blk_frozen I9.out.res 2
    have q3:=(blk_cell I9.out.res 0).trans rfl
    have q4:=(blk_cell I9.out.res 1).trans rfl
    have q5:=(blk_cell I9.out.res 2).trans rfl
    have X3:=aK (blk_put (blk_put (blk_put I9.out.res 0 (.int .i64 0) rfl) 1 (.slice none 0 0) rfl) 2 (.slice none 0 0) rfl)
    go_wp2
    refine bodyPost_ret (results_ct rfl _ _ b6 25 #[.int .i64 0,.slice none 0 0,.slice none 0 0] (0,0) _ rfl X3.out Tryz.underlying25 rfl (by kernel_rfl)) rfl ?_
    rw [HO.out]
    exact ⟨.slice none 0 0,.slice none 0 0,rfl,Kd.R_nil _ _ _ _ _,Kd.R_nil _ _ _ _ _,below_set (below_set (below_set I9.out.below I9.out.le) I9.out.le) I9.out.le⟩
   | false =>
    have HO:Aside0 (r=(size,xc,xr,0)):=⟨by rw [HFF.out];rfl⟩
    clear HFF I9
    obtain ⟨v1,v2,hm,ho1,ho2⟩:=J2.out.met
    obtain ⟨A3,c3,rfl⟩:=Kd.R_slice ho1
    obtain ⟨A4,c4,rfl⟩:=Kd.R_slice ho2
    have O1:=aK ho1
    have O2:=aK ho2
    have RB:=aK J2.out.base
    have g0:=(blk_cell hm 0).trans rfl
    have g1:=(blk_cell hm 1).trans rfl
    have g2:=(blk_cell hm 2).trans rfl
    clear hm ho1 ho2
    have q0:=blk_frozen RB.out.res 0
    have q1:=blk_frozen RB.out.res 1
    have q2:=blk_frozen RB.out.res 2
    have q3:=(blk_cell RB.out.res 0).trans rfl
    have q4:=(blk_cell RB.out.res 1).trans rfl
    have q5:=(blk_cell RB.out.res 2).trans rfl
    have X1:=aK (blk_put RB.out.res 0 (.int .i64 size) rfl)
    have X2:=aK (blk_put X1.out 1 (.slice A3 (xc).length c3) rfl)
    have X3:=aK (blk_put X2.out 2 (.slice A4 (xr).length c4) rfl)
    go_wp2
    refine bodyPost_ret (results_ct rfl _ _ b6 25 #[.int .i64 size,.slice A3 (xc).length c3,.slice A4 (xr).length c4] (0,0) _ rfl X3.out Tryz.underlying25 rfl (by kernel_rfl)) rfl ?_
    rw [HO.out]
    exact ⟨.slice A3 (xc).length c3, .slice A4 (xr).length c4, rfl,
     Kd.R_set (Kd.R_set (Kd.R_set O1.out RB.out.res (fun q hq=>by rw [opq50 q hq];decide) 0 _) X1.out (fun q hq=>by rw [opq50 q hq];decide) 1 _) X2.out (fun q hq=>by rw [opq50 q hq];decide) 2 _,
     Kd.R_set (Kd.R_set (Kd.R_set O2.out RB.out.res (fun q hq=>by rw [opq45 q hq];decide) 0 _) X1.out (fun q hq=>by rw [opq45 q hq];decide) 1 _) X2.out (fun q hq=>by rw [opq45 q hq];decide) 2 _,
     below_set (below_set (below_set RB.out.below RB.out.le) RB.out.le) RB.out.le⟩
end Go.Proofs.YtoemkemmiikhlaaGreat.PF4
