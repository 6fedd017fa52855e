import Derived.Test.YtoemkemmiikhlaaGreatPF4x0
import Derived.Test.YtoemkemmiikhlaaGreatPF4x3
import Derived.Test.YtoemkemmiikhlaaGreatPF4x5
import Derived.Test.YtoemkemmiikhlaaGreatPF4x6
set_option maxRecDepth 100000
namespace Go.Proofs.YtoemkemmiikhlaaGreat.PF4
open Go.RowKit Go.Proofs.YtoemkemmiikhlaaGreatW.PrintWords Go.Proofs.YtoemkemmiikhlaaGreatW.PrintLast Go.Proofs.YtoemkemmiikhlaaGreatW.PrintMore
attribute [local go_sem] max2_int min2_int max_two min_two max_three min_three max_four min_four
set_option linter.unusedVariables false
set_option linter.unusedSimpArgs false
abbrev RdS:=List Int×Bool
def rdTab : Nat → RdS → List Int × RdS
 | 0,s=>([],s)
 | n+1,s=>if s.2 then ([],s) else (((rd4 s).1::(rdTab n (rd4 s).2).1),(rdTab n (rd4 s).2).2)
def atB (t:List Int) (s:RdS):Int×RdS:=if (rd2 s).1<(t.length:Int) then (rd t (rd2 s).1,(rd2 s).2) else (0,((rd2 s).2.1,true))
def rdChar (T:Nat→List Int) (s:RdS):S50×RdS :=
 let c:=rd1 s
 let x:=atB (T 0) c.2
 let y:=atB (T 1) x.2
 let z:=atB (T 2) y.2
 (⟨c.1,x.1,y.1,z.1⟩,z.2)
def rdChars (T : Nat → List Int) : Nat → RdS → List S50 × RdS
 | 0,s=>([],s)
 | n+1,s=>if s.2 then ([],s) else (((rdChar T s).1::(rdChars T n (rdChar T s).2).1),(rdChars T n (rdChar T s).2).2)
def rdRule (s:RdS):S45×RdS :=
 let a:=rd1 s
 let b:=rd1 a.2
 let c:=rd1 b.2
 let d:=rd4 c.2
 (⟨a.1,b.1,c.1,d.1⟩,d.2)
def rdRules : Nat → RdS → List S45 × RdS
 | 0,s=>([],s)
 | n+1,s=>if s.2 then ([],s) else (((rdRule s).1::(rdRules n (rdRule s).2).1),(rdRules n (rdRule s).2).2)
def rdT (s:RdS):List Int×RdS:=rdTab (rd2 s).1.toNat (rd2 s).2
def oneMore (T:Nat→List Int) (i:Nat) (t:List Int):Nat→List Int:=fun j=>if j=i then t else T j
def rdTs : Nat → RdS → (Nat → List Int) × RdS
 | 0,s=>(fun _=>[],s)
 | i+1,s=>(oneMore (rdTs i s).1 i (rdT (rdTs i s).2).1,(rdT (rdTs i s).2).2)
def parseB (b:List Int):Int×List S50×List S45×Bool :=
 let z:=rd4 (takeB 4 (b,false)).2
 let t:=rdTs 3 z.2
 let n:=rd2 t.2
 let c:=rdChars t.1 n.1.toNat n.2
 let m:=rd2 c.2
 let r:=rdRules m.1.toNat m.2
 (z.1,c.1,r.1,r.2.2)
def openB (b:List Int):Int×List S50×List S45×Int :=
 let p:=parseB b
 if p.2.2.2 || !validM p.1 p.2.1 p.2.2.1 || !decide (fileB p.1 p.2.1 p.2.2.1=b) then (0,[],[],30) else (p.1,p.2.1,p.2.2.1,0)
theorem takeB_le (n:Nat) (s:RdS):(takeB n s).2.1.length≤s.1.length:=by
 unfold takeB
 split
 ·simp
 ·simp
theorem rd2_range (s:RdS) (h:IsBytes s.1):0≤(rd2 s).1∧(rd2 s).1<65536:=by
 have:=numB_range (takeB 2 s).1 (takeB_bytes 2 s h).1
 rw [takeB_len] at this
 exact this
theorem rd1_range (s:RdS) (h:IsBytes s.1):0≤(rd1 s).1∧(rd1 s).1<256:=by
 have:=numB_range (takeB 1 s).1 (takeB_bytes 1 s h).1
 rw [takeB_len] at this
 exact this
def KeepT (t:TypeId) (w w':World):Prop:=w.heap.size≤w'.heap.size∧∀ k,k<w.heap.size→(∀ cs,w.heap[k]?≠some (.cells cs t (0,0)))→w'.heap[k]?=w.heap[k]?
theorem KeepT.of_row {α:Type} {d:Kd α} {t base:Nat} {ok:Nat→Prop} {v:Value} {xs:List α} {W w1:World} (ho:d.R t W base ok v xs) (hg:W.grownBy w1 v.ownBlock):KeepT t W w1:=by
 refine ⟨hg.size,fun k hk h=>hg.block k hk (fun e=>?_)⟩
 obtain ⟨cells,hc⟩:=own_typed ho.2.choose_spec.1 k e.symm
 exact h cells hc
theorem KeepT.blk {t t':TypeId} {w w':World} {k:Nat} {cs:Array Value} (h:KeepT t w w') (hk:w.heap[k]?=some (.cells cs t' (0,0))) (hne:t'≠t):w'.heap[k]?=some (.cells cs t' (0,0)):=by
 refine (h.2 k (blk_lt hk) (fun cs' e=>?_)).trans hk
 rw [hk] at e
 injection e with e
 injection e with _ e
 exact hne e
theorem KeepT.row {α:Type} {d:Kd α} {e t base:Nat} {ok:Nat→Prop} {v:Value} {xs:List α} {w w':World} (h:KeepT t w w') (ho:d.R e w base ok v xs) (h1 : ∀ q,q∈e::d.E→q≠t):d.R e w' base ok v xs:=by
 refine Kd.R_mono (Kd.R_move (Kd.R_bound ho) (fun k hk=>?_)) (fun _ hk=>hk.1)
 obtain ⟨_,_,hlt,q,hq,cells,hc⟩:=hk
 exact (h.blk hc (h1 q hq)).trans hc.symm
theorem keepBut_row {α:Type} {d:Kd α} {e base b:Nat} {ok:Nat→Prop} {v:Value} {xs:List α} {w w':World} {cs:Array Value} {t:TypeId} (h:KeepBut w w' b none) (ho:d.R e w base ok v xs) (hb:w.heap[b]?=some (.cells cs t (0,0))) (h1 : ∀ q,q∈e::d.E→q≠t):d.R e w' base ok v xs:=by
 refine Kd.R_mono (Kd.R_move (Kd.R_bound ho) (fun k hk=>?_)) (fun _ hk=>hk.1)
 obtain ⟨_,_,hlt,q,hq,cells,hc⟩:=hk
 refine h.2 k hlt ?_ (by simp)
 rintro rfl
 rw [hc] at hb
 injection hb with hb
 injection hb with _ hb
 exact h1 q hq hb
theorem int_other {e base base':Nat} {ok ok':Nat→Prop} {v v':Value} {xs xs':List Int} {W w1:World} (ho:Kd.R (Kd.int .i64) e W base ok v xs) (hg:W.grownBy w1 v'.ownBlock) (hne:v.ownBlock=none∨v.ownBlock≠v'.ownBlock):Kd.R (Kd.int .i64) e w1 base ok v xs:=by
 obtain ⟨h0,inner,h1,h2⟩:=ho
 exact ⟨h0,inner,own_other h1 hg hne,h2⟩
structure OpenI (w0 W:World) (b2 br b4 bm bt:Nat) (sz:Int) (s:RdS) (T:Nat→List Int) (cs:List S50) (rs:List S45):Prop where
 below:Below w0.heap.size w0 W
 le:w0.heap.size≤br∧w0.heap.size≤bm∧w0.heap.size≤bt∧w0.heap.size≤b2
 rd:RdAt w0 W br s
 res:W.heap[b2]?=some (.cells #[.int .i64 0,.slice none 0 0,.slice none 0 0] 25 (0,0))
 ne:b2≠bm
 ptr:W.heap[b4]?=some (.cells #[.pointer (some ⟨br,0,none⟩)] 68 (0,0))
 met : ∃ v1 v2,W.heap[bm]?=some (.cells #[.int .i64 sz,v1,v2] 25 (0,0))∧Kd.R k50 50 W w0.heap.size (fun _=>True) v1 cs∧Kd.R k45 45 W w0.heap.size (fun _=>True) v2 rs
 tabs : ∃ tv:Array Value,W.heap[bt]?=some (.cells tv 73 (0,0))∧tv.size=3∧(∀ j,j<3→∃ v,tv[j]?=some v∧Kd.R (Kd.int .i64) 3 W w0.heap.size (fun _=>True) v (T j))∧∀ (i j:Nat) (vi vj:Value),i≠j→tv[i]?=some vi→tv[j]?=some vj→vi.ownBlock=none∨vi.ownBlock≠vj.ownBlock
section
variable {w0 W W2:World} {b2 br b4 bm bt:Nat} {sz:Int} {s s2:RdS} {T:Nat→List Int} {cs:List S50} {rs:List S45}
theorem opq50 : ∀ q,q∈50::k50.E→q=50:=by intro q hq;simpa [k50,Kd.iso,Kd.pair,Kd.int,Kd.scalar] using hq
theorem opq45 : ∀ q,q∈45::k45.E→q=45:=by intro q hq;simpa [k45,Kd.iso,Kd.pair,Kd.int,Kd.scalar] using hq
theorem opq3 : ∀ q,q∈3::(Kd.int .i64).E→q=3:=by intro q hq;simpa [Kd.int,Kd.scalar] using hq
theorem OpenI.ofBelow (h:OpenI w0 W b2 br b4 bm bt sz s T cs rs) (hb:Below W.heap.size W W2):OpenI w0 W2 b2 br b4 bm bt sz s T cs rs:=by
 obtain ⟨h1,h2,h3,h4,h5,h6,⟨v1,v2,h7,h8,h9⟩,tv,h10,h11,h12,h13⟩:=h
 exact ⟨below_step h1 hb,h2,h3.step (hb.block _ h3.lt),blk_below h4 hb,h5,blk_below h6 hb,⟨v1,v2,blk_below h7 hb,Kd.R_below h8 hb,Kd.R_below h9 hb⟩,tv,blk_below h10 hb,h11,fun j hj=>by
  obtain ⟨v,hv,hr⟩:=h12 j hj
  exact ⟨v,hv,Kd.R_below hr hb⟩,h13⟩
theorem OpenI.ofRead (h:OpenI w0 W b2 br b4 bm bt sz s T cs rs) (hR:RdAt w0 W2 br s2) (hB:Below w0.heap.size w0 W2) (hk:KeepBut W W2 br none):OpenI w0 W2 b2 br b4 bm bt sz s2 T cs rs:=by
 obtain ⟨h1,h2,h3,h4,h5,h6,⟨v1,v2,h7,h8,h9⟩,tv,h10,h11,h12,h13⟩:=h
 obtain ⟨A,c,hb,hrest⟩:=h3
 exact ⟨hB, h2, hR, hk.blk h4 (blk_ne h4 hb (by decide)) (by simp), h5, hk.blk h6 (blk_ne h6 hb (by decide)) (by simp), ⟨v1, v2, hk.blk h7 (blk_ne h7 hb (by decide)) (by simp), keepBut_row hk h8 hb (fun q hq => by rw [opq50 q hq]; decide), keepBut_row hk h9 hb (fun q hq => by rw [opq45 q hq]; decide)⟩,
  tv,hk.blk h10 (blk_ne h10 hb (by decide)) (by simp),h11,fun j hj=>by
   obtain ⟨v,hv,hr⟩:=h12 j hj
   exact ⟨v,hv,keepBut_row hk hr hb (fun q hq=>by rw [opq3 q hq];decide)⟩,h13⟩
theorem OpenI.tab {i : Nat} {v v1 : Value} {t : List Int} {w1 : World} (h : OpenI w0 W b2 br b4 bm bt sz s T cs rs) (hi : i < 3) (hB1 : Below w0.heap.size w0 w1) (hv : W.cell? ⟨bt, i, none⟩ = some v) (h1r : Kd.R (Kd.int .i64) 3 w1 w0.heap.size (fun _ => True) v1 t) (hg : W.grownBy w1 v.ownBlock) (hat : v1.ownBlock = v.ownBlock ∨ ∃ b, v1.ownBlock = some b ∧ W.heap.size ≤ b) :
  OpenI w0 (w1.setCell ⟨bt,i,none⟩ v1) b2 br b4 bm bt sz s (oneMore T i t) cs rs:=by
 obtain ⟨h1,h2,h3,h4,h5,h6,⟨u1,u2,h7,h8,h9⟩,tv,h10,h11,h12,h13⟩:=h
 have hvi:tv[i]?=some v:=by rw [← blk_cell h10 i];exact hv
 obtain ⟨v',hv',hr'⟩:=h12 i hi
 obtain rfl:v=v':=Option.some.inj (hvi.symm.trans hv')
 have hk:=KeepT.of_row hr' hg
 have g10:=hk.blk h10 (by decide)
 obtain ⟨A,c,hb,hrest⟩:=h3
 have gb:=hk.blk hb (by decide)
 have g4:=hk.blk h4 (by decide)
 have g6:=hk.blk h6 (by decide)
 have g7:=hk.blk h7 (by decide)
 refine ⟨below_set hB1 h2.2.2.1, h2, ⟨A, c, blk_far gb (blk_ne gb g10 (by decide)) _, hrest⟩, blk_far g4 (blk_ne g4 g10 (by decide)) _, h5, blk_far g6 (blk_ne g6 g10 (by decide)) _,
  ⟨u1,u2,blk_far g7 (blk_ne g7 g10 (by decide)) _,Kd.R_set (hk.row h8 (fun q hq=>by rw [opq50 q hq];decide)) g10 (fun q hq=>by rw [opq50 q hq];decide) i v1,Kd.R_set (hk.row h9 (fun q hq=>by rw [opq45 q hq];decide)) g10 (fun q hq=>by rw [opq45 q hq];decide) i v1⟩,
  tv.setIfInBounds i v1,blk_set g10 i v1,by simpa using h11,fun j hj=>?_,fun a b va vb hab ha hb'=>?_⟩
 ·by_cases e:j=i
  ·subst e
   refine ⟨v1,by rw [Array.getElem?_setIfInBounds_self_of_lt (by omega)],?_⟩
   unfold oneMore
   rw [if_pos rfl]
   exact Kd.R_set h1r g10 (fun q hq=>by rw [opq3 q hq];decide) j v1
  ·obtain ⟨vj,hvj,hrj⟩:=h12 j hj
   refine ⟨vj,by rw [Array.getElem?_setIfInBounds_ne (Ne.symm e)];exact hvj,?_⟩
   unfold oneMore
   rw [if_neg e]
   exact Kd.R_set (int_other (ok':=fun _=>True) (base':=0) (xs':=[]) hrj hg (h13 j i vj v e hvj hvi)) g10 (fun q hq=>by rw [opq3 q hq];decide) i v1
 ·have fresh : ∀ j vj,j≠i→j<3→tv[j]?=some vj→vj.ownBlock=none∨vj.ownBlock≠v1.ownBlock:=fun j vj hji hj3 hvj=>by
   rcases hat with hat|⟨b,hb1,hb2⟩
   ·rw [hat];exact h13 j i vj v hji hvj hvi
   ·obtain ⟨v'',hv'',hr''⟩:=h12 j hj3
    obtain rfl:vj=v'':=Option.some.inj (hvj.symm.trans hv'')
    right
    intro e
    have:=own_lt hr''.2.choose_spec.1 b (e.trans hb1)
    omega
  have lt3 : ∀ j (u:Value),(tv.setIfInBounds i v1)[j]?=some u→j<3:=fun j u hj=>by
   have:=(Array.getElem?_eq_some_iff.mp hj).1
   simpa [h11] using this
  have ga3:=lt3 a va ha
  have gb3:=lt3 b vb hb'
  by_cases ea:a=i
  ·subst ea
   rw [Array.getElem?_setIfInBounds_self_of_lt (by omega)] at ha
   obtain rfl:=Option.some.inj ha
   rw [Array.getElem?_setIfInBounds_ne hab] at hb'
   rcases fresh b vb (Ne.symm hab) gb3 hb' with h|h
   ·by_cases hn:v1.ownBlock=none
    ·exact .inl hn
    ·right;rw [h];exact hn
   ·exact .inr (Ne.symm h)
  ·rw [Array.getElem?_setIfInBounds_ne (Ne.symm ea)] at ha
   by_cases eb:b=i
   ·subst eb
    rw [Array.getElem?_setIfInBounds_self_of_lt (by omega)] at hb'
    obtain rfl:=Option.some.inj hb'
    exact fresh a va ea ga3 ha
   ·rw [Array.getElem?_setIfInBounds_ne (Ne.symm eb)] at hb'
    exact h13 a b va vb hab ha hb'
end
theorem OpenI.appC {w0 W : World} {b2 br b4 bm bt : Nat} {sz : Int} {s : RdS} {T : Nat → List Int} {cs : List S50} {rs : List S45} {v v1 : Value} {x : S50} {w1 : World} (h : OpenI w0 W b2 br b4 bm bt sz s T cs rs) (hB1 : Below w0.heap.size w0 w1) (hv : W.cell? ⟨bm, 1, none⟩ = some v) (h1r : Kd.R k50 50 w1 w0.heap.size (fun _ => True) v1 (cs ++ [x])) (hg : W.grownBy w1 v.ownBlock) :
  OpenI w0 (w1.setCell ⟨bm,1,none⟩ v1) b2 br b4 bm bt sz s T (cs++[x]) rs:=by
 obtain ⟨h1,h2,h3,h4,h5,h6,⟨u1,u2,h7,h8,h9⟩,tv,h10,h11,h12,h13⟩:=h
 have hvi:u1=v:=Option.some.inj ((blk_cell h7 1).symm.trans hv)
 subst hvi
 have hk:=KeepT.of_row h8 hg
 have g10:=hk.blk h10 (by decide)
 obtain ⟨A,c,hb,hrest⟩:=h3
 have gb:=hk.blk hb (by decide)
 have g4:=hk.blk h4 (by decide)
 have g6:=hk.blk h6 (by decide)
 have g7:=hk.blk h7 (by decide)
 refine ⟨below_set hB1 h2.2.1, h2, ⟨A, c, blk_far gb (blk_ne gb g7 (by decide)) _, hrest⟩, blk_far g4 h5 _, h5, blk_far g6 (blk_ne g6 g7 (by decide)) _,
  ⟨_,_,blk_put g7 1 v1 rfl,Kd.R_set h1r g7 (fun q hq=>by rw [opq50 q hq];decide) 1 v1,Kd.R_set (hk.row h9 (fun q hq=>by rw [opq45 q hq];decide)) g7 (fun q hq=>by rw [opq45 q hq];decide) 1 v1⟩,tv,blk_far g10 (blk_ne g10 g7 (by decide)) _,h11,fun j hj=>?_,h13⟩
 obtain ⟨vj,hvj,hrj⟩:=h12 j hj
 exact ⟨vj,hvj,Kd.R_set (hk.row hrj (fun q hq=>by rw [opq3 q hq];decide)) g7 (fun q hq=>by rw [opq3 q hq];decide) 1 v1⟩
theorem OpenI.appR {w0 W : World} {b2 br b4 bm bt : Nat} {sz : Int} {s : RdS} {T : Nat → List Int} {cs : List S50} {rs : List S45} {v v1 : Value} {x : S45} {w1 : World} (h : OpenI w0 W b2 br b4 bm bt sz s T cs rs) (hB1 : Below w0.heap.size w0 w1) (hv : W.cell? ⟨bm, 2, none⟩ = some v) (h1r : Kd.R k45 45 w1 w0.heap.size (fun _ => True) v1 (rs ++ [x])) (hg : W.grownBy w1 v.ownBlock) :
  OpenI w0 (w1.setCell ⟨bm,2,none⟩ v1) b2 br b4 bm bt sz s T cs (rs++[x]):=by
 obtain ⟨h1,h2,h3,h4,h5,h6,⟨u1,u2,h7,h8,h9⟩,tv,h10,h11,h12,h13⟩:=h
 have hvi:u2=v:=Option.some.inj ((blk_cell h7 2).symm.trans hv)
 subst hvi
 have hk:=KeepT.of_row h9 hg
 have g10:=hk.blk h10 (by decide)
 obtain ⟨A,c,hb,hrest⟩:=h3
 have gb:=hk.blk hb (by decide)
 have g4:=hk.blk h4 (by decide)
 have g6:=hk.blk h6 (by decide)
 have g7:=hk.blk h7 (by decide)
 refine ⟨below_set hB1 h2.2.1, h2, ⟨A, c, blk_far gb (blk_ne gb g7 (by decide)) _, hrest⟩, blk_far g4 h5 _, h5, blk_far g6 (blk_ne g6 g7 (by decide)) _,
  ⟨_,_,blk_put g7 2 v1 rfl,Kd.R_set (hk.row h8 (fun q hq=>by rw [opq50 q hq];decide)) g7 (fun q hq=>by rw [opq50 q hq];decide) 2 v1,Kd.R_set h1r g7 (fun q hq=>by rw [opq45 q hq];decide) 2 v1⟩,tv,blk_far g10 (blk_ne g10 g7 (by decide)) _,h11,fun j hj=>?_,h13⟩
 obtain ⟨vj,hvj,hrj⟩:=h12 j hj
 exact ⟨vj,hvj,Kd.R_set (hk.row hrj (fun q hq=>by rw [opq3 q hq];decide)) g7 (fun q hq=>by rw [opq3 q hq];decide) 2 v1⟩
set_option maxHeartbeats 4000000 in
theorem open1_calls {w0 W : World} {b2 br b4 bm bt : Nat} {sz : Int} {s : RdS} {T : Nat → List Int} {cs : List S50} {rs : List S45} (i : Nat) (hi : i < 3) (h : OpenI w0 W b2 br b4 bm bt sz s T cs rs) (hl : s.1.length ≤ 1000000000000) :
  Calls Tryz.prog 44 #[.int .i64 (i:Int),.pointer (some ⟨b4,0,none⟩),.pointer (some ⟨bt,0,none⟩)] W fun e w'=>e = .returned (.int .i64 (atB (T i) s).1)∧OpenI w0 w' b2 br b4 bm bt sz (atB (T i) s).2 T cs rs∧KeepBut W w' br none:=by
 have hu:=Tryz.underlying73
 have hu2:=Tryz.underlying70
 have hii:(i:Int)<3:=by omega
 have hi0:(0:Int)≤(i:Int):=by omega
 have m0:=(blk_cell h.ptr 0).trans rfl
 have H:=aK h
 have HBY:IsBytes s.1:=by obtain ⟨_,_,_,_,_,hb⟩:=h.rd;exact hb
 have hr:=rd2_range s HBY
 have hc:=readTwo w0 br s W h.below h.le.1 h.rd hl
 have HAT:Aside0 (atB (T i) s=if (rd2 s).1<((T i).length:Int) then (rd (T i) (rd2 s).1,(rd2 s).2) else (0,((rd2 s).2.1,true))):=⟨rfl⟩
 generalize atB (T i) s=at' at *
 generalize rd2 s=r2 at *
 obtain ⟨n,s2⟩:=r2
 obtain ⟨s2,sh⟩:=s2
 simp only at hr hc HAT
 clear h HBY hl
 go_enter Tryz.func44,Tryz.ntmps44
 go_wp2_with fail
 refine hc.mono ?_
 clear hc m0
 rintro e W1 ⟨rfl,hR1,hB1,hK1⟩
 have I1:=aK (H.out.ofRead hR1 hB1 hK1)
 have HK1:=aK hK1
 clear hR1 hB1 hK1 H
 obtain ⟨tv,ht,hts,htr,-⟩:=I1.out.tabs
 obtain ⟨vi,hvi,hri⟩:=htr i hi
 obtain ⟨A9,c9,rfl⟩:=Kd.R_slice hri
 have q0:=(blk_cell ht i).trans hvi
 have hrd:=Kd.R_reads' hri
 have hcl:=hrd.2.1
 have m1:=(blk_cell I1.out.ptr 0).trans rfl
 by_cases hlt:n<((T i).length:Int)
 ·have HA:Aside0 (at'=(rd (T i) n,(s2,sh))):=⟨by rw [HAT.out,if_pos hlt]⟩
  obtain ⟨ad,rfl,hx⟩:=at_I hrd.2.2 n hr.1 hlt
  have hr0:=hr.1
  generalize rd (T i) n=x at *
  clear HAT hrd hri htr hts ht hvi
  go_wp2
  go_ret
  rw [HA.out]
  exact ⟨rfl,I1.out,HK1.out⟩
 ·have HA:Aside0 (at'=(0,(s2,true))):=⟨by rw [HAT.out,if_neg hlt]⟩
  obtain ⟨A0,c0,hb,hc0,hC,hby⟩:=I1.out.rd
  simp only at hb hc0 hC hby
  have p0:=blk_frozen hb 1
  have p1:=(blk_cell hb 1).trans rfl
  have I2:Aside0 (OpenI w0 (W1.setCell ⟨br,1,none⟩ (.bool true)) b2 br b4 bm bt sz (s2,true) T cs rs):=⟨I1.out.ofRead ⟨A0,c0,blk_put hb 1 (.bool true) rfl,hc0,hC,hby⟩ (below_set I1.out.below I1.out.le.1) (KeepBut.set_ (KeepBut.refl W1 br none) 1 (.bool true))⟩
  have HK2:=aK (KeepBut.set_ HK1.out 1 (.bool true))
  clear HAT hrd hri htr hts ht hvi hb hc0 hC hby I1 HK1
  go_wp2
  go_ret
  rw [HA.out]
  exact ⟨rfl,I2.out,HK2.out⟩
def normalOf (Q:Exit→Act→World→Prop):Act→World→Prop:=fun a w=>Q .normal a w
theorem wp_last {P:Program} {s:Code} {Q:Exit→Act→World→Prop} {a:Act} {w:World} (h:s.wp P (Exit.then (normalOf Q) Q) a w):s.wp P Q a w:=by
 refine wp_mono h ?_
 intro e a' w' hq
 cases e with
 | normal=>exact hq
 | exit id=>exact hq
 | goto l=>exact hq
 | ret=>exact hq
 | panic ch=>exact hq
 | outgrown=>exact hq
theorem oneMore_nil {T:Nat→List Int} {i:Nat} (h:T i=[]):oneMore T i []=T:=by
 funext j
 unfold oneMore
 split
 ·rename_i e;rw [e,h]
 ·rfl
theorem atB_le (t:List Int) (s:RdS):(atB t s).2.1.length≤s.1.length:=by
 have h:=takeB_le 2 s
 unfold atB
 split
 ·exact h
 ·exact h
theorem setCells_four {w:World} {b:Nat} {t:TypeId} {a1 a2 a3 a4 v1 v2 v3 v4:Value} (h:w.heap[b]?=some (.cells #[a1,a2,a3,a4] t (0,0))):(w.setCells b 0 [v1,v2,v3,v4]).heap[b]?=some (.cells #[v1,v2,v3,v4] t (0,0)) :=
 blk_put (blk_put (blk_put (blk_put h 0 v1 rfl) 1 v2 rfl) 2 v3 rfl) 3 v4 rfl
theorem RdAt.alloc_ {w0 W:World} {b:Nat} {s:RdS} (h:RdAt w0 W b s) (o:Obj):RdAt w0 (W.alloc o) b s:=by
 obtain ⟨A,c,h1,h2⟩:=h
 exact ⟨A,c,blk_alloc h1 o,h2⟩
theorem rdChars_len (T : Nat → List Int) : ∀ (n : Nat) (s : RdS), (rdChars T n s).1.length ≤ n
 | 0,s=>by simp [rdChars]
 | n+1,s=>by
  rw [rdChars]
  split
  ·simp
  ·have:=rdChars_len T n (rdChar T s).2
   simp only [List.length_cons]
   omega
theorem rdRules_len : ∀ (n : Nat) (s : RdS), (rdRules n s).1.length ≤ n
 | 0,s=>by simp [rdRules]
 | n+1,s=>by
  rw [rdRules]
  split
  ·simp
  ·have:=rdRules_len n (rdRule s).2
   simp only [List.length_cons]
   omega
theorem parse_is {b:List Int} {s1 z0 s s2 s3 s4 s5:RdS} {sz:Int} {T:Nat→List Int} {n n2:Nat} {cs:List S50} {rs:List S45} (h1:s1=(takeB 4 (b,false)).2) (h2:(sz,z0)=rd4 s1) (h3:rdTs 3 z0=(T,s)) (h4:rd2 s=((n:Int),s2)) (h5:rdChars T n s2=(cs,s3)) (h6:rd2 s3=((n2:Int),s4)) (h7:rdRules n2 s4=(rs,s5)):parseB b=(sz,cs,rs,s5.2):=by
 unfold parseB
 simp only [← h1,← h2,h3,h4,Int.toNat_natCast,h5,h6,h7]
theorem equal_loop (l0 l1 : List Int) (hl : l0.length = l1.length) (hb : l0.length ≤ 1000000000000) : ∀ (d i : Nat), i + d = l0.length → l0.take i = l1.take i → slices_Equal_byte_byte.l0 (d + 1) l0 l1 (l0.length : Int) (i : Int) = some (decide (l0 = l1))
 | 0,i,h,ht=>by
  rw [slices_Equal_byte_byte.l0,if_neg (by omega)]
  rw [List.take_of_length_le (by omega),List.take_of_length_le (by omega)] at ht
  rw [decide_eq_true ht]
 | d+1,i,h,ht=>by
  have hlt:i<l0.length:=by omega
  have e0:rd l0 (i:Int)=l0[i]:=by simp [rd,hlt]
  have e1:rd l1 (i:Int)=l1[i]'(by omega):=by simp [rd,(show i<l1.length by omega)]
  have hw:wrap64 ((i:Int)+1)=((i+1:Nat):Int):=by unfold wrap64;omega
  rw [slices_Equal_byte_byte.l0,if_pos (by omega),if_pos (by omega),if_pos (by omega),if_pos (by omega),e0,e1,hw]
  by_cases hq:l0[i]=l1[i]'(by omega)
  ·rw [if_pos hq]
   exact equal_loop l0 l1 hl hb d (i+1) (by omega) (by rw [List.take_succ_eq_append_getElem hlt,List.take_succ_eq_append_getElem (by omega),ht,hq])
  ·rw [if_neg hq,decide_eq_false]
   rintro rfl
   exact hq rfl
theorem equal_is (l0 l1:List Int) (hb:l0.length≤1000000000000):slices_Equal_byte_byte.f (l0.length+1) l0 l1=some (decide (l0=l1)):=by
 unfold slices_Equal_byte_byte.f
 by_cases h:l0.length=l1.length
 ·rw [if_pos (by omega)]
  exact equal_loop l0 l1 h hb l0.length 0 (by omega) rfl
 ·rw [if_neg (by omega),decide_eq_false]
  rintro rfl
  exact h rfl
theorem flat_le {α : Type} (f : α → List Int) (k : Nat) : ∀ l : List α, (∀ x ∈ l, (f x).length ≤ k) → (l.flatMap f).length ≤ l.length * k
 | [],_=>by simp
 | a::l,h=>by
  have h1:=flat_le f k l (fun x hx=>h x (by simp [hx]))
  have h2:=h a (by simp)
  rw [List.flatMap_cons,List.length_append,List.length_cons,Nat.succ_mul]
  omega
theorem fileB_len (sz:Int) (cs:List S50) (rs:List S45) (h1:cs.length≤1000) (h2:rs.length≤1000):(fileB sz cs rs).length≤100000:=by
 have e2 : ∀ n,(be2 n).length=2:=fun _=>rfl
 have e4 : ∀ n,(be4 n).length=4:=fun _=>rfl
 have e1 : ∀ n,(be1 n).length=1:=fun _=>rfl
 have em:magicB.length=4:=rfl
 have t1 : ∀ j,(tabBytes (tabJ cs j)).length≤4002:=fun j=>by
  have h3:=tabB_len (cs.map (dimF j))
  rw [List.length_map] at h3
  have h4:=flat_le be4 4 (tabJ cs j) (fun x _=>Nat.le_refl _)
  have h5:(tabJ cs j).length≤cs.length:=h3
  unfold tabBytes
  simp only [List.length_append,e2]
  omega
 have t2:=flat_le (fun j=>tabBytes (tabJ cs j)) 4002 (List.range 3) (fun j _=>t1 j)
 have t3:=flat_le (charB cs) 7 cs (fun c _=>by
  have h3:=flat_le (fun j=>be2 (idxB (tabJ cs j) (dimF j c))) 2 (List.range 3) (fun j _=>Nat.le_refl _)
  rw [List.length_range] at h3
  unfold charB dimsB
  simp only [List.length_append,e1]
  omega)
 have t4:=flat_le ruleB 7 rs (fun c _=>by
  unfold ruleB
  simp only [List.length_append,e1,e4]
  omega)
 rw [List.length_range] at t2
 unfold fileB bodyB headB
 simp only [List.length_append,e2,e4,em]
 omega
theorem oneMore_two (T:Nat→List Int) (i:Nat) (t t':List Int):oneMore (oneMore T i t) i t'=oneMore T i t':=by
 funext j
 unfold oneMore
 split <;> rfl
theorem takeB_isBytes (n:Nat) (s:RdS) (h:IsBytes s.1):IsBytes (takeB n s).2.1:=(takeB_bytes n s h).2
set_option maxHeartbeats 16000000 in
theorem open_calls (A : Option Addr) (c : Nat) (b : List Int) (w : World) (hr : Kd.C (Kd.int .u8) w A b.length b) (hc : b.length ≤ c) (hby : IsBytes b) (hl : b.length ≤ 1000000000000) :
  Calls Tryz.prog 15 #[.slice A b.length c] w fun e w'=>∃ v1 v2,e = .returned (.tuple #[.agg #[.int .i64 (openB b).1,v1,v2],.int .i64 (openB b).2.2.2])∧Kd.R k50 50 w' w.heap.size (fun _=>True) v1 (openB b).2.1∧Kd.R k45 45 w' w.heap.size (fun _=>True) v2 (openB b).2.2.1∧Below w.heap.size w w':=by
 have hu25:=Tryz.underlying25
 have hu50:=Tryz.underlying50
 have hu45:=Tryz.underlying45
 have hu73:=Tryz.underlying73
 have hu70:=Tryz.underlying70
 obtain ⟨br,hbr⟩ : ∃ br,br=w.heap.size+1:=⟨_,rfl⟩
 obtain ⟨b4,hb4⟩ : ∃ b4,b4=w.heap.size+1+1:=⟨_,rfl⟩
 have HBE:=aK (And.intro hbr hb4)
 have HL:=aK hl
 have HRB:=aK hr
 have HCB:=aK hc
 have hq0:=blk_alloc (blk_alloc (blk_new w (.cells #[.int .i64 0,.slice none 0 0,.slice none 0 0] 25)) (.cells #[.slice A b.length c,.bool false] 70)) (.cells #[.pointer (some ⟨w.heap.size+1,0,none⟩)] 68)
 have hq1:=blk_alloc (blk_new (w.alloc (.cells #[.int .i64 0,.slice none 0 0,.slice none 0 0] 25)) (.cells #[.slice A b.length c,.bool false] 70)) (.cells #[.pointer (some ⟨w.heap.size+1,0,none⟩)] 68)
 have hq2:=blk_new ((w.alloc (.cells #[.int .i64 0,.slice none 0 0,.slice none 0 0] 25)).alloc (.cells #[.slice A b.length c,.bool false] 70)) (.cells #[.pointer (some ⟨w.heap.size+1,0,none⟩)] 68)
 have HB0:=aK (below_alloc (below_alloc (below_alloc (Below.refl w.heap.size w) (.cells #[.int .i64 0,.slice none 0 0,.slice none 0 0] 25)) (.cells #[.slice A b.length c,.bool false] 70)) (.cells #[.pointer (some ⟨w.heap.size+1,0,none⟩)] 68))
 simp only [World.size_alloc] at hq1 hq2
 rw [← hb4] at hq2
 rw [← hbr] at hq0 hq1 hq2 HB0
 have hRd:RdAt w (((w.alloc (.cells #[.int .i64 0,.slice none 0 0,.slice none 0 0] 25)).alloc (.cells #[.slice A b.length c,.bool false] 70)).alloc (.cells #[.pointer (some ⟨br,0,none⟩)] 68)) br (b,false):=⟨A,c,hq1,hc,hr,hby⟩
 have HRD:=aK hRd
 have HRES:=aK hq0
 have HPTR:=aK hq2
 have hbl:w.heap.size≤br:=by omega
 have HBL:=aK hbl
 clear hq0 hq1 hq2 hRd hr hc hby hl hbl hbr hb4
 go_enter Tryz.func15,Tryz.ntmps15
 go_upto_region 2 with (fail)
 rw [← HBE.out.2,← HBE.out.1]
 generalize ((w.alloc (.cells #[.int .i64 0,.slice none 0 0,.slice none 0 0] 25)).alloc (.cells #[.slice A b.length c,.bool false] 70)).alloc (.cells #[.pointer (some ⟨br,0,none⟩)] 68)=V at *
 have m0:=(blk_cell HPTR.out 0).trans rfl
 go_wp2_with fail
 refine (take_calls w br 4 (b,false) V HB0.out HBL.out HRD.out (by decide) (by decide) HL.out).mono ?_
 rintro e W1 ⟨A1,c1,rfl,-,-,hR1,hB1,hK1⟩
 have HPTR1:=aK (hK1.blk HPTR.out (blk_ne HPTR.out HRD.out.choose_spec.choose_spec.1 (by decide)) (by simp))
 have HRES1:=aK (hK1.blk HRES.out (blk_ne HRES.out HRD.out.choose_spec.choose_spec.1 (by decide)) (by simp))
 have HS1:Aside0 ((takeB 4 (b,false)).2.1.length≤1000000000000):=⟨by have h1:=takeB_le 4 (b,false);have h2:=HL.out;simp only at h1;omega⟩
 have HP:Aside0 (∃ s,s=(takeB 4 (b,false)).2):=⟨⟨_,rfl⟩⟩
 obtain ⟨s1,hs1⟩:=HP.out
 rw [← hs1] at hR1 HS1
 have HSE:=aK hs1
 have HR1:=aK hR1
 have HB1:=aK hB1
 clear m0 hs1 HP hR1 hB1 hK1 HPTR HRES HB0 HRD
 have m0:=(blk_cell HPTR1.out 0).trans rfl
 go_wp2_with fail
 refine (readFour w br s1 W1 HB1.out HBL.out HR1.out HS1.out).mono ?_
 rintro e W2 ⟨rfl,hR2,hB2,hK2⟩
 have HPTR2:=aK (hK2.blk HPTR1.out (blk_ne HPTR1.out HR1.out.choose_spec.choose_spec.1 (by decide)) (by simp))
 have HRES2:=aK (hK2.blk HRES1.out (blk_ne HRES1.out HR1.out.choose_spec.choose_spec.1 (by decide)) (by simp))
 have HS2:Aside0 ((rd4 s1).2.1.length≤1000000000000):=⟨by have h1:=takeB_le 4 s1;have h2:=HS1.out;unfold rd4;simp only;omega⟩
 have HP:Aside0 (∃ z,z=rd4 s1):=⟨⟨_,rfl⟩⟩
 obtain ⟨z,hz⟩:=HP.out
 rw [← hz] at hR2 HS2 ⊢
 have HZE:=aK hz
 have HR2:=aK hR2
 have HB2:=aK hB2
 obtain ⟨sz,z0⟩:=z
 simp only at HS2 HR2
 clear m0 hz HP hR2 hB2 hK2 HPTR1 HRES1 HB1 HR1 HS1
 obtain ⟨bm,hbm⟩ : ∃ bm,bm=W2.heap.size:=⟨_,rfl⟩
 obtain ⟨bt,hbt⟩ : ∃ bt,bt=W2.heap.size+1:=⟨_,rfl⟩
 have I0:Aside0 (OpenI w ((W2.alloc (.cells #[.int .i64 sz,.slice none 0 0,.slice none 0 0] 25)).alloc (.cells #[.slice none 0 0,.slice none 0 0,.slice none 0 0] 73)) w.heap.size br b4 bm bt sz z0 (fun _=>[]) [] []):=by
  refine ⟨⟨below_alloc (below_alloc HB2.out _) _,⟨HBL.out,by rw [hbm];exact HB2.out.size,by rw [hbt];exact Nat.le_succ_of_le HB2.out.size,Nat.le_refl _⟩,HR2.out.step ?_,blk_alloc (blk_alloc HRES2.out _) _,by rw [hbm];exact Nat.ne_of_lt (blk_lt HRES2.out),blk_alloc (blk_alloc HPTR2.out _) _,⟨_,_,by rw [hbm];exact blk_alloc (blk_new W2 _) _,Kd.R_nil _ _ _ _ _,Kd.R_nil _ _ _ _ _⟩,#[.slice none 0 0,.slice none 0 0,.slice none 0 0],?_,rfl,fun j hj=>⟨.slice none 0 0,?_,Kd.R_nil _ _ _ _ _⟩,fun i j vi vj _ hi _=>.inl ?_⟩⟩
  ·have:=HR2.out.lt
   obtain ⟨A9,c9,h9,_⟩:=HR2.out
   exact (blk_alloc (blk_alloc h9 _) _).trans h9.symm
  ·have:=blk_new (W2.alloc (.cells #[.int .i64 sz,.slice none 0 0,.slice none 0 0] 25)) (.cells #[.slice none 0 0,.slice none 0 0,.slice none 0 0] 73)
   simp only [World.size_alloc] at this
   rw [hbt]
   exact this
  ·match j,hj with
   | 0,_=>rfl
   | 1,_=>rfl
   | 2,_=>rfl
  ·match i,hi with
   | 0,hi=>cases hi;rfl
   | 1,hi=>cases hi;rfl
   | 2,hi=>cases hi;rfl
   | n+3,hi=>simp at hi
 have HBM:=aK (And.intro hbm hbt)
 clear hbm hbt HPTR2 HRES2 HB2 HR2
 go_upto_region 5 with (fail)
 rw [← HBM.out.2,← HBM.out.1]
 generalize (W2.alloc (.cells #[.int .i64 sz,.slice none 0 0,.slice none 0 0] 25)).alloc (.cells #[.slice none 0 0,.slice none 0 0,.slice none 0 0] 73)=V at *
 clear HBM
 go_wp2
 go_loopg [19] 3 (fun gg s19 wr=>∃ (kk:Nat) (s:RdS) (T:Nat→List Int),kk≤3∧3-kk≤gg∧s19 = .int .i64 kk∧Aside0 (OpenI w wr w.heap.size br b4 bm bt sz s T [] [])∧Aside0 (rdTs kk z0=(T,s))∧Aside0 (s.1.length≤1000000000000)∧Aside0 (∀ j,kk≤j→T j=[]))
 case atStart=>exact ⟨0,z0,_,by omega,by omega,rfl,I0,⟨rfl⟩,HS2,⟨fun _ _=>rfl⟩⟩
 case round =>
  clear I0 HS2
  obtain ⟨kk,s,T,hkk,hg,rfl,I,HTS,HSL,HTN⟩:=hrel
  by_cases hlt:kk<3
  ·have hlti:(kk:Int)<3:=by omega
   have hk0:(0:Int)≤(kk:Int):=by omega
   have m0:=(blk_cell I.out.ptr 0).trans rfl
   have hby:IsBytes s.1:=by obtain ⟨_,_,_,_,_,hb⟩:=I.out.rd;exact hb
   have hnr:=rd2_range s hby
   have hc:=readTwo w br s wr I.out.below I.out.le.1 I.out.rd HSL.out
   have HNX:Aside0 (rdTs (kk+1) z0=(oneMore T kk (rdT s).1,(rdT s).2)):=⟨by rw [rdTs,HTS.out]⟩
   have HS3:Aside0 ((rd2 s).2.1.length≤1000000000000):=⟨by have h1:=takeB_le 2 s;have h2:=HSL.out;unfold rd2;simp only;omega⟩
   have HRT:Aside0 (rdT s=rdTab (rd2 s).1.toNat (rd2 s).2):=⟨rfl⟩
   generalize rdT s=rt at *
   generalize rd2 s=r2 at *
   obtain ⟨n0,s2⟩:=r2
   simp only at hc hnr HS3 HRT
   obtain ⟨n,rfl⟩:=Int.eq_ofNat_of_zero_le hnr.1
   rw [Int.toNat_natCast] at HRT
   obtain ⟨-,hn⟩:=hnr
   have HNB:Aside0 (n<65536):=⟨by omega⟩
   have HSTEP:=aK (show wrap64 ((kk:Int)+1)=((kk+1:Nat):Int) by unfold wrap64;omega)
   clear hby hn
   go_wp2_with fail
   refine hc.mono ?_
   clear hc m0
   rintro e W3 ⟨rfl,hR3,hB3,hK3⟩
   have I1:=aK (I.out.ofRead hR3 hB3 hK3)
   clear hR3 hB3 hK3 I HSL HTS
   go_upto_block 2 with (fail)
   refine wp_last ?_
   generalize hlast:normalOf _=KK
   go_cut [] (fun wc=>Aside0 (OpenI w wc w.heap.size br b4 bm bt sz rt.2 (oneMore T kk rt.1) [] [])∧Aside0 (rt.2.1.length≤1000000000000))
   case first =>
    go_wp2_with fail
    go_loopg [24] n (fun gg s24 wi=>∃ (jj:Nat) (s':RdS) (t:List Int),jj≤n∧n-jj≤gg∧s24 = .int .i64 jj∧Aside0 (rt=(t++(rdTab (n-jj) s').1,(rdTab (n-jj) s').2))∧Aside0 (t.length=jj)∧Aside0 (OpenI w wi w.heap.size br b4 bm bt sz s' (oneMore T kk t) [] [])∧Aside0 (s'.1.length≤1000000000000))
    case atStart=>exact ⟨0,s2,[],by omega,by omega,rfl,⟨by rw [HRT.out];rfl⟩,⟨rfl⟩,⟨by rw [oneMore_nil (HTN.out kk (Nat.le_refl _))];exact I1.out⟩,HS3⟩
    case round =>
     clear I1 HS3 HRT
     obtain ⟨jj,s',t,hjj,hgg,rfl,HRT,HTL,I,HSL⟩:=hrel
     by_cases hj:jj<n
     ·have hji:(jj:Int)<(n:Int):=by omega
      obtain ⟨m,hm⟩ : ∃ m,n-jj=m+1:=⟨n-jj-1,by omega⟩
      rw [hm,rdTab] at HRT
      have HM:Aside0 (n-(jj+1)=m):=⟨by omega⟩
      have HN2:=aK (show jj+1≤n by omega)
      clear hm
      obtain ⟨A0,c0,hb,-⟩:=I.out.rd
      have p1:=(blk_cell hb 1).trans rfl
      have m0:=(blk_cell I.out.ptr 0).trans rfl
      cases hsh:s'.2 with
      | true =>
       rw [hsh] at p1
       rw [hsh,if_pos rfl,List.append_nil] at HRT
       clear hb hsh
       go_wp2
       go_meet
       case rel=>exact ⟨by rw [HRT.out];exact I,by rw [HRT.out];exact HSL⟩
      | false =>
       rw [hsh] at p1
       rw [hsh,if_neg (by decide)] at HRT
       clear hsh
       obtain ⟨tv,ht,hts,htr,-⟩:=I.out.tabs
       obtain ⟨vk,hvk,hrk⟩:=htr kk hlt
       have e1:oneMore T kk t kk=t:=by unfold oneMore;rw [if_pos rfl]
       rw [e1] at hrk
       obtain ⟨A9,c9,rfl⟩:=Kd.R_slice hrk
       have HT:=aK (blk_drew ht)
       have HVK:=aK hvk
       have HRK:=aK (Kd.R_drew hrk)
       have HBR:=aK (blk_drew hb)
       have P0:Aside0 (wr.drew.cell? ⟨bt,kk,none⟩=some (.slice A9 t.length c9)):=⟨(blk_cell HT.out kk).trans hvk⟩
       have I1:=aK (I.out.ofBelow (below_drew1 (Below.refl wr.heap.size wr)))
       have P1:Aside0 (wr.drew.cell? ⟨b4,0,none⟩=some (.pointer (some ⟨br,0,none⟩))):=⟨(blk_cell I1.out.ptr 0).trans rfl⟩
       have hc:=readFour w br s' wr.drew I1.out.below I1.out.le.1 I1.out.rd HSL.out
       have HS5:Aside0 ((rd4 s').2.1.length≤1000000000000):=⟨by have h1:=takeB_le 4 s';have h2:=HSL.out;unfold rd4;simp only;omega⟩
       generalize rd4 s'=r4 at *
       obtain ⟨x,s5⟩:=r4
       simp only at hc HS5 HRT
       have HC:=aK hc
       have HTN2:Aside0 ((t.length+1)*8≤140737488355328):=⟨by have h1:=HTL.out;have h2:=HNB.out;omega⟩
       have HSTEP2:=aK (show wrap64 ((jj:Int)+1)=((jj+1:Nat):Int) by have:=HNB.out;unfold wrap64;omega)
       clear hc hb ht hts htr hvk hrk e1 I HSL
       go_upto_region 11 with (fail)
       clear m0 p1
       refine start_ (n:=10) (S:=fun w'=>w'.cell? ⟨bt,kk,none⟩=some (.slice A9 t.length c9)∧w'.cell? ⟨b4,0,none⟩=some (.pointer (some ⟨br,0,none⟩))) (ds:=[7,9]) #[false,false,false,false,false,false,false,false,false,false] (by kernel_rfl) rfl rfl ⟨P0.out,P1.out⟩ (fun hHeld=>?_)
       refine pu 0 (some 30) ?_ rfl rfl (by kernel_rfl) (fun _ _ _ h=>h) (.inl ⟨by rfl,?_⟩) ?_ ?_ ?_;rotate_left;intro w';go_simp;with_reducible rfl;rotate_left;simp only [nS];rfl
       refine pu 1 (some 31) ?_ rfl rfl (by kernel_rfl) (fun _ _ _ h=>h) (.inl ⟨by rfl,?_⟩) ?_ ?_ ?_;rotate_left;intro w';go_simp;with_reducible rfl;rotate_left;simp only [nS];rfl
       refine pu 2 (some 32) ?_ rfl rfl (by kernel_rfl) (fun _ _ _ h=>h) (.inl ⟨by rfl,?_⟩) ?_ ?_ ?_;rotate_left;intro w';go_simp;with_reducible rfl;rotate_left;simp only [nS];rfl
       refine tk 3 (some 33) ?_ rfl rfl (by kernel_rfl) (fun _ _ _ h=>h) (.inl ⟨by rfl,?_⟩) hHeld ?_ ?_ ?_;rotate_left;rintro w' ⟨s0,s1⟩;go_simp;with_reducible rfl;rotate_left;simp only [nS];rfl
       refine tk 4 (some 34) ?_ rfl rfl (by kernel_rfl) (fun _ _ _ h=>h) (.inl ⟨by rfl,?_⟩) hHeld ?_ ?_ ?_;rotate_left;rintro w' ⟨s0,s1⟩;go_simp;with_reducible rfl;rotate_left;simp only [nS];rfl
       refine one_ (i:=5) (N:=some 35) #[true,true,true,true,true,true,false,false,false,false] rfl rfl (by kernel_rfl) (by decide) (fun K hK=>?_)
       refine goes_ Tryz.func42 (by kernel_rfl) rfl #[.pointer (some ⟨br,0,none⟩)] (by rfl) rfl rfl (by simp only [List.map_toArray,List.map_cons,List.map_nil];rfl) ?_
       refine HC.out.mono ?_
       rintro e W8 ⟨rfl,hR8,hB8,hK8⟩
       have I8:=aK (I1.out.ofRead hR8 hB8 hK8)
       have HT8:=aK (hK8.blk HT.out (blk_ne HT.out HBR.out (by decide)) (by simp))
       have HRK8:=aK (keepBut_row hK8 HRK.out HBR.out (fun q hq=>by rw [opq3 q hq];decide))
       clear hR8 hB8 hK8
       refine ⟨_,rfl,?_⟩
       refine hK.out _ _ ⟨(blk_cell HT8.out kk).trans HVK.out,(blk_cell I8.out.ptr 0).trans rfl⟩ (fun hHeld=>?_)
       clear hK K
       refine norm_ (a':=?_) ?_ ?_;rotate_left;show Act.put _ (some 35) _=_;simp only [nS];rfl
       refine one_ (i:=6) (N:=some 36) #[true,true,true,true,true,true,true,false,false,false] rfl rfl (by kernel_rfl) (by decide) (fun K hK=>?_)
       refine value_ (w1:=?_) (v:=?_) (by rfl) rfl ?_ ?_
       rotate_left 2
       ·go_simp
        constructor
        ·rfl
        ·rfl
       refine hK.out _ _ ⟨(World.cell?_alloc_lt _ _ _ (World.block_lt_of_cell? _ _ (hHeld.1))).trans (hHeld.1),(World.cell?_alloc_lt _ _ _ (World.block_lt_of_cell? _ _ (hHeld.2))).trans (hHeld.2)⟩ (fun hHeld=>?_)
       clear hK K
       refine norm_ (a':=?_) ?_ ?_;rotate_left;show Act.put _ (some 36) _=_;simp only [nS];rfl
       refine last_ (i:=7) (N:=some 37) #[true,true,true,true,true,true,true,true,false,false] rfl rfl (by kernel_rfl) (by decide) (fun K hK=>?_)
       refine Kd.R_append_step (Kd.int .i64) (w0:=w) w.heap.size (by rfl) (.tmp 33) (.tmp 36) 48 3 (.int .i64 0) 8 rfl Tryz.underlying48 info3 rfl (by decide) (by omega) (.slice A9 t.length c9) t x [.int .i64 x] (fun _=>True) (fun _=>False) rfl rfl rfl (fun _ h=>h.elim) (fun _ _=>trivial) HRK8.out I8.out.below I8.out.below.size HTN2.out ?_
       intro v1 w9 ho9 hb9 hg9 hat9
       obtain ⟨A19,k19,rfl⟩:=Kd.R_slice ho9
       have HT9:=(KeepT.of_row HRK8.out hg9).blk HT8.out (by decide)
       have f0:=blk_frozen HT9 kk
       have f1:=(blk_cell HT9 kk).trans HVK.out
       have I9:=aK (I8.out.tab hlt hb9 ((blk_cell HT8.out kk).trans HVK.out) ho9 hg9 hat9)
       clear ho9 hb9 hg9 hat9 HT9
       refine hK.out _ _ ?_
       clear hK K
       refine norm_ (a':=?_) ?_ ?_;rotate_left;show Act.put _ (some 37) _=_;simp only [nS];rfl
       refine pu 8 (some 38) ?_ rfl rfl (by kernel_rfl) (fun _ _ _ h=>h) (.inl ⟨by rfl,?_⟩) ?_ ?_ ?_;rotate_left;intro w';go_simp;with_reducible rfl;rotate_left;simp only [nS];rfl
       refine last_ (i:=9) (N:=none) #[true,true,true,true,true,true,true,true,true,true] rfl rfl (by kernel_rfl) (by decide) (fun K hK=>?_)
       refine skip_ (w1:=?_) (by rfl) rfl ?_ ?_
       rotate_left
       ·go_simp
        rfl
       refine hK.out _ _ ?_
       clear hK K
       refine done_ (by kernel_rfl) ?_
       have HRT2:Aside0 (rt=((t++[x])++(rdTab m s5).1,(rdTab m s5).2)):=⟨by rw [HRT.out];simp⟩
       have HTL2:Aside0 ((t++[x]).length=jj+1):=⟨by have:=HTL.out;simp;omega⟩
       have I10:=I9.out
       have hlen1:(t++[x]).length=t.length+1:=by simp
       rw [oneMore_two,hlen1] at I10
       clear hlen1
       have I11:=aK I10
       clear I9 I10 f0 f1
       go_wp2
       go_roundg (n-(jj+1))
       case measure=>have:=HM.out;omega
       case rel=>exact ⟨jj+1,s5,t++[x],HN2.out,by omega,by first|exact congrArg (Value.int .i64) HSTEP2.out|go_num,⟨by rw [HM.out];exact HRT2.out⟩,HTL2,I11,HS5⟩
     ·have hji : ¬ (jj:Int)<(n:Int):=by omega
      obtain rfl:jj=n:=by omega
      rw [Nat.sub_self,rdTab,List.append_nil] at HRT
      go_wp2
      go_meet
      case rel=>exact ⟨by rw [HRT.out];exact I,by rw [HRT.out];exact HSL⟩
   case rest =>
    obtain ⟨I2,HS4⟩:=hcut
    clear I1 HS3 HRT
    subst hlast
    unfold normalOf
    go_wp2
    go_roundg (3-(kk+1))
    case measure=>omega
    case rel=>exact ⟨kk+1,rt.2,_,by omega,by omega,by first|exact congrArg (Value.int .i64) HSTEP.out|go_num,I2,HNX,HS4,⟨fun j hj=>by unfold oneMore;rw [if_neg (by omega)];exact HTN.out j (by omega)⟩⟩
  ·have hlti : ¬ (kk:Int)<3:=by omega
   obtain rfl:kk=3:=by omega
   have m0:=(blk_cell I.out.ptr 0).trans rfl
   have hby:IsBytes s.1:=by obtain ⟨_,_,_,_,_,hb⟩:=I.out.rd;exact hb
   have hnr:=rd2_range s hby
   have hc:=readTwo w br s wr I.out.below I.out.le.1 I.out.rd HSL.out
   have HS3:Aside0 ((rd2 s).2.1.length≤1000000000000):=⟨by have h1:=takeB_le 2 s;have h2:=HSL.out;unfold rd2;simp only;omega⟩
   obtain ⟨r2,hr2⟩ : ∃ r2,rd2 s=r2:=⟨_,rfl⟩
   rw [hr2] at hc hnr HS3
   obtain ⟨n0,s2⟩:=r2
   simp only at hc hnr HS3
   obtain ⟨n,rfl⟩:=Int.eq_ofNat_of_zero_le hnr.1
   have HE2:=aK hr2
   have HNB:Aside0 (n<65536):=⟨by have:=hnr.2;omega⟩
   clear hby hnr hlt hlti hkk hg hr2 HTN
   go_wp2_with fail
   refine hc.mono ?_
   clear hc m0
   rintro e W3 ⟨rfl,hR3,hB3,hK3⟩
   have I1:=aK (I.out.ofRead hR3 hB3 hK3)
   clear hR3 hB3 hK3 I HSL
   obtain ⟨rc,hrc⟩ : ∃ rc,rdChars T n s2=rc:=⟨_,rfl⟩
   have HRC:=aK hrc
   clear hrc
   go_upto_block 4 with (fail)
   go_cut [] (fun wc=>Aside0 (OpenI w wc w.heap.size br b4 bm bt sz rc.2 T rc.1 [])∧Aside0 (rc.2.1.length≤1000000000000))
   case first =>
    go_wp2_with fail
    go_loopg [44] n (fun gg s44 wi=>∃ (jj:Nat) (s':RdS) (cs:List S50),jj≤n∧n-jj≤gg∧s44 = .int .i64 jj∧Aside0 (rc=(cs++(rdChars T (n-jj) s').1,(rdChars T (n-jj) s').2))∧Aside0 (cs.length=jj)∧Aside0 (OpenI w wi w.heap.size br b4 bm bt sz s' T cs [])∧Aside0 (s'.1.length≤1000000000000))
    case atStart=>exact ⟨0,s2,[],by omega,by omega,rfl,⟨by rw [← HRC.out];rfl⟩,⟨rfl⟩,I1,HS3⟩
    case round =>
     clear I1 HS3 HRC HE2 HTS
     obtain ⟨jj,s',cs,hjj,hgg,rfl,HRT,HTL,I,HSL⟩:=hrel
     by_cases hj:jj<n
     ·have hji:(jj:Int)<(n:Int):=by omega
      obtain ⟨m,hm⟩ : ∃ m,n-jj=m+1:=⟨n-jj-1,by omega⟩
      rw [hm,rdChars] at HRT
      have HM:Aside0 (n-(jj+1)=m):=⟨by omega⟩
      have HN2:=aK (show jj+1≤n by omega)
      clear hm
      obtain ⟨A0,c0,hb,-⟩:=I.out.rd
      have p1:=(blk_cell hb 1).trans rfl
      have m0:=(blk_cell I.out.ptr 0).trans rfl
      cases hsh:s'.2 with
      | true =>
       rw [hsh] at p1
       rw [hsh,if_pos rfl,List.append_nil] at HRT
       clear hb hsh
       go_wp2
       go_meet
       case rel=>exact ⟨by rw [HRT.out];exact I,by rw [HRT.out];exact HSL⟩
      | false =>
       rw [hsh] at p1
       rw [hsh,if_neg (by decide)] at HRT
       have HSTEP2:=aK (show wrap64 ((jj:Int)+1)=((jj+1:Nat):Int) by have:=HNB.out;unfold wrap64;omega)
       have HTN2:Aside0 ((cs.length+1)*32≤140737488355328):=⟨by have h1:=HTL.out;have h2:=HNB.out;omega⟩
       have hch:rdChar T s'=(⟨(rd1 s').1,(atB (T 0) (rd1 s').2).1,(atB (T 1) (atB (T 0) (rd1 s').2).2).1,(atB (T 2) (atB (T 1) (atB (T 0) (rd1 s').2).2).2).1⟩,(atB (T 2) (atB (T 1) (atB (T 0) (rd1 s').2).2).2).2):=rfl
       rw [hch] at HRT
       have hc:=readOne w br s' wr I.out.below I.out.le.1 I.out.rd HSL.out
       have HS5:Aside0 ((rd1 s').2.1.length≤1000000000000):=⟨by have h1:=takeB_le 1 s';have h2:=HSL.out;unfold rd1;simp only;omega⟩
       generalize rd1 s'=r1 at *
       obtain ⟨code,s5⟩:=r1
       simp only at hc HS5 HRT
       clear hb hsh hch
       go_wp2_with fail
       refine hc.mono ?_
       clear hc p1 m0
       rintro e W9 ⟨rfl,hR9,hB9,hK9⟩
       have I9:=aK (I.out.ofRead hR9 hB9 hK9)
       have I10:=aK (I9.out.ofBelow (below_alloc (Below.refl W9.heap.size W9) (.cells #[.int .i64 code,.int .i64 0,.int .i64 0,.int .i64 0] 50)))
       have X10:=aK (blk_new W9 (.cells #[.int .i64 code,.int .i64 0,.int .i64 0,.int .i64 0] 50))
       have K10:=aK (keep_alloc (KeepBut.refl W9 br none) (.cells #[.int .i64 code,.int .i64 0,.int .i64 0,.int .i64 0] 50))
       have hbr:W9.heap.size≠br:=Nat.ne_of_gt I9.out.rd.lt
       have HNE:=aK hbr
       clear hR9 hB9 hK9 I HSL hbr
       obtain ⟨bx,hbx⟩ : ∃ bx,bx=W9.heap.size:=⟨_,rfl⟩
       go_upto_region 19 with (fail)
       rw [← hbx] at X10 HNE ⊢
       generalize W9.alloc (.cells #[.int .i64 code,.int .i64 0,.int .i64 0,.int .i64 0] 50)=V9 at *
       have HBX:=aK hbx
       clear hbx
       go_wp2_with fail
       refine (open1_calls 0 (by decide) I10.out HS5.out).mono ?_
       have HS6:Aside0 ((atB (T 0) s5).2.1.length≤1000000000000):=⟨Nat.le_trans (atB_le (T 0) s5) HS5.out⟩
       generalize atB (T 0) s5=a6 at *
       obtain ⟨x1,s6⟩:=a6
       simp only at HRT HS6
       rintro e W6 ⟨rfl,i6,k6⟩
       simp only at i6
       have I6:=aK i6
       have X6:=aK (k6.blk X10.out HNE.out (by simp))
       have K6:=aK (K10.out.trans k6 (.inl rfl))
       clear i6 k6 I10 X10 K10 HS5
       go_wp2_with fail
       refine (open1_calls 1 (by decide) I6.out HS6.out).mono ?_
       have HS7:Aside0 ((atB (T 1) s6).2.1.length≤1000000000000):=⟨Nat.le_trans (atB_le (T 1) s6) HS6.out⟩
       generalize atB (T 1) s6=a7 at *
       obtain ⟨x2,s7⟩:=a7
       simp only at HRT HS7
       rintro e W7 ⟨rfl,i7,k7⟩
       simp only at i7
       have I7:=aK i7
       have X7:=aK (k7.blk X6.out HNE.out (by simp))
       have K7:=aK (K6.out.trans k7 (.inl rfl))
       clear i7 k7 I6 X6 K6 HS6
       go_wp2_with fail
       refine (open1_calls 2 (by decide) I7.out HS7.out).mono ?_
       have HS8:Aside0 ((atB (T 2) s7).2.1.length≤1000000000000):=⟨Nat.le_trans (atB_le (T 2) s7) HS7.out⟩
       generalize atB (T 2) s7=a8 at *
       obtain ⟨x3,s8⟩:=a8
       simp only at HRT HS8
       rintro e W8 ⟨rfl,i8,k8⟩
       simp only at i8
       have I8:=aK i8
       have X8:=aK (k8.blk X7.out HNE.out (by simp))
       have K8:=aK (K7.out.trans k8 (.inl rfl))
       clear i8 k8 I7 X7 K7 HS7
       have g1:=blk_frozen X8.out 1
       have g2:=(blk_cell X8.out 1).trans rfl
       have X11:=blk_put X8.out 1 (.int .i64 x1) rfl
       have g3:=blk_frozen X11 2
       have g4:=(blk_cell X11 2).trans rfl
       have X12:=blk_put X11 2 (.int .i64 x2) rfl
       have g5:=blk_frozen X12 3
       have g6:=(blk_cell X12 3).trans rfl
       have X13:=aK (blk_put X12 3 (.int .i64 x3) rfl)
       clear X11 X12
       have HFAR:Aside0 (W9.heap.size≤bx):=⟨by rw [HBX.out];exact Nat.le_refl _⟩
       have K13:=aK (keep_far (p:=⟨bx,3,none⟩) (keep_far (p:=⟨bx,2,none⟩) (keep_far (p:=⟨bx,1,none⟩) K8.out HFAR.out (.int .i64 x1)) HFAR.out (.int .i64 x2)) HFAR.out (.int .i64 x3))
       have HB13:Aside0 (Below w.heap.size w (((W8.setCell ⟨bx,1,none⟩ (.int .i64 x1)).setCell ⟨bx,2,none⟩ (.int .i64 x2)).setCell ⟨bx,3,none⟩ (.int .i64 x3))):=⟨by have hq:w.heap.size≤bx:=Nat.le_trans I9.out.below.size HFAR.out;exact below_set (below_set (below_set I8.out.below hq) hq) hq⟩
       have I13:Aside0 (OpenI w (((W8.setCell ⟨bx,1,none⟩ (.int .i64 x1)).setCell ⟨bx,2,none⟩ (.int .i64 x2)).setCell ⟨bx,3,none⟩ (.int .i64 x3)) w.heap.size br b4 bm bt sz s8 T cs []):=⟨I9.out.ofRead (((I8.out.rd.step (Below.heap_setCell _ _ _ _ (Ne.symm HNE.out))).step (Below.heap_setCell _ _ _ _ (Ne.symm HNE.out))).step (Below.heap_setCell _ _ _ _ (Ne.symm HNE.out))) HB13.out K13.out⟩
       go_upto_region 20 with (fail)
       generalize ((W8.setCell ⟨bx,1,none⟩ (.int .i64 x1)).setCell ⟨bx,2,none⟩ (.int .i64 x2)).setCell ⟨bx,3,none⟩ (.int .i64 x3)=W13 at *
       clear g1 g2 g3 g4 g5 g6 X8 K8 I8 HB13 K13 I9 HFAR HBX HNE
       obtain ⟨v1,v2,hm,ho1,-⟩:=I13.out.met
       obtain ⟨A19,k19,rfl⟩:=Kd.R_slice ho1
       have q0:=blk_frozen hm 1
       have q1:=(blk_cell hm 1).trans rfl
       have y0:=(blk_cell X13.out 0).trans rfl
       have y1:=(blk_cell X13.out 1).trans rfl
       have y2:=(blk_cell X13.out 2).trans rfl
       have y3:=(blk_cell X13.out 3).trans rfl
       have HO:=aK ho1
       have HMM:=aK hm
       clear hm ho1
       go_wp2_with ((with_reducible refine gate_builtin (b:=.append) (xs:=#[.tmp 63,.tmp 65]) rfl ?_);at_builtin;refine Kd.R_append k50 (w0:=w) w.heap.size rfl (.tmp 63) (.tmp 65) 22 50 (.agg #[.int .i64 0,.int .i64 0,.int .i64 0,.int .i64 0]) 32 rfl Tryz.underlying22 info50 rfl (by decide) (by omega) (.slice A19 cs.length k19) cs (⟨code,x1,x2,x3⟩:S50) [.int .i64 code,.int .i64 x1,.int .i64 x2,.int .i64 x3] (fun _=>True) (fun _=>False) rfl rfl (k50_mkM _ _ _ (⟨code,x1,x2,x3⟩:S50)) (fun _ h=>h.elim) (fun _ _=>trivial) HO.out I13.out.below I13.out.below.size HTN2.out ?_;intro v9 w9 ho9 hb9 hg9 hat9;obtain ⟨A29,k29,rfl⟩:=Kd.R_slice ho9;have HT9:=(KeepT.of_row HO.out hg9).blk HMM.out (by decide);have f0:=blk_frozen HT9 1;have f1:=(blk_cell HT9 1).trans rfl;have I14:=aK (I13.out.appC hb9 ((blk_cell HMM.out 1).trans rfl) ho9 hg9);clear ho9 hb9 hg9 hat9 HT9 q0 q1 y0 y1 y2 y3)
       have HRT2:Aside0 (rc=((cs++[⟨code,x1,x2,x3⟩])++(rdChars T m s8).1,(rdChars T m s8).2)):=⟨by rw [HRT.out];simp⟩
       have HTL2:Aside0 ((cs++[(⟨code,x1,x2,x3⟩:S50)]).length=jj+1):=⟨by have:=HTL.out;simp;omega⟩
       have I15:=I14.out
       have hlen1:(cs++[(⟨code,x1,x2,x3⟩:S50)]).length=cs.length+1:=by simp
       rw [hlen1] at I15
       have I16:=aK I15
       clear I15 I14 f0 f1 hlen1
       go_roundg (n-(jj+1))
       case measure=>have:=HM.out;omega
       case rel=>exact ⟨jj+1,s8,cs++[⟨code,x1,x2,x3⟩],HN2.out,by omega,by first|exact congrArg (Value.int .i64) HSTEP2.out|go_num,⟨by rw [HM.out];exact HRT2.out⟩,HTL2,I16,HS8⟩
     ·have hji : ¬ (jj:Int)<(n:Int):=by omega
      obtain rfl:jj=n:=by omega
      rw [Nat.sub_self,rdChars,List.append_nil] at HRT
      go_wp2
      go_meet
      case rel=>exact ⟨by rw [HRT.out];exact I,by rw [HRT.out];exact HSL⟩
   case rest =>
    obtain ⟨I2,HS4⟩:=hcut
    clear I1 HS3
    obtain ⟨cs,s3⟩:=rc
    simp only at I2 HS4
    have m0:=(blk_cell I2.out.ptr 0).trans rfl
    have hby:IsBytes s3.1:=by obtain ⟨_,_,_,_,_,hb⟩:=I2.out.rd;exact hb
    have hnr:=rd2_range s3 hby
    have hc:=readTwo w br s3 wc I2.out.below I2.out.le.1 I2.out.rd HS4.out
    have HS3:Aside0 ((rd2 s3).2.1.length≤1000000000000):=⟨by have h1:=takeB_le 2 s3;have h2:=HS4.out;unfold rd2;simp only;omega⟩
    obtain ⟨r2,hr2⟩ : ∃ r2,rd2 s3=r2:=⟨_,rfl⟩
    rw [hr2] at hc hnr HS3
    obtain ⟨n0,s4⟩:=r2
    simp only at hc hnr HS3
    obtain ⟨n2,rfl⟩:=Int.eq_ofNat_of_zero_le hnr.1
    have HE3:=aK hr2
    have HNB2:Aside0 (n2<65536):=⟨by have:=hnr.2;omega⟩
    clear hby hnr hr2
    go_wp2_with fail
    refine hc.mono ?_
    clear hc m0
    rintro e W3 ⟨rfl,hR3,hB3,hK3⟩
    have I1:=aK (I2.out.ofRead hR3 hB3 hK3)
    clear hR3 hB3 hK3 I2 HS4
    obtain ⟨rc,hrc⟩ : ∃ rc,rdRules n2 s4=rc:=⟨_,rfl⟩
    have HRC2:=aK hrc
    clear hrc
    go_upto_block 6 with (fail)
    go_cut [] (fun wc=>Aside0 (OpenI w wc w.heap.size br b4 bm bt sz rc.2 T cs rc.1)∧Aside0 (rc.2.1.length≤1000000000000))
    case first =>
     go_wp2_with fail
     go_loopg [71] n2 (fun gg s71 wi=>∃ (jj:Nat) (s':RdS) (rs:List S45),jj≤n2∧n2-jj≤gg∧s71 = .int .i64 jj∧Aside0 (rc=(rs++(rdRules (n2-jj) s').1,(rdRules (n2-jj) s').2))∧Aside0 (rs.length=jj)∧Aside0 (OpenI w wi w.heap.size br b4 bm bt sz s' T cs rs)∧Aside0 (s'.1.length≤1000000000000))
     case atStart=>exact ⟨0,s4,[],by omega,by omega,rfl,⟨by rw [← HRC2.out];rfl⟩,⟨rfl⟩,I1,HS3⟩
     case round =>
      clear I1 HS3 HRC2 HE3 HRC HE2 HTS
      obtain ⟨jj,s',rs,hjj,hgg,rfl,HRT,HTL,I,HSL⟩:=hrel
      by_cases hj:jj<n2
      ·have hji:(jj:Int)<(n2:Int):=by omega
       obtain ⟨m,hm⟩ : ∃ m,n2-jj=m+1:=⟨n2-jj-1,by omega⟩
       rw [hm,rdRules] at HRT
       have HM:Aside0 (n2-(jj+1)=m):=⟨by omega⟩
       have HN2:=aK (show jj+1≤n2 by omega)
       clear hm
       obtain ⟨A0,c0,hb,-⟩:=I.out.rd
       have p1:=(blk_cell hb 1).trans rfl
       have m0:=(blk_cell I.out.ptr 0).trans rfl
       cases hsh:s'.2 with
       | true =>
        rw [hsh] at p1
        rw [hsh,if_pos rfl,List.append_nil] at HRT
        clear hb hsh
        go_wp2
        go_meet
        case rel=>exact ⟨by rw [HRT.out];exact I,by rw [HRT.out];exact HSL⟩
       | false =>
        rw [hsh] at p1
        rw [hsh,if_neg (by decide)] at HRT
        have HSTEP2:=aK (show wrap64 ((jj:Int)+1)=((jj+1:Nat):Int) by have:=HNB2.out;unfold wrap64;omega)
        have HTN2:Aside0 ((rs.length+1)*32≤140737488355328):=⟨by have h1:=HTL.out;have h2:=HNB2.out;omega⟩
        have hch:rdRule s'=(⟨(rd1 s').1,(rd1 (rd1 s').2).1,(rd1 (rd1 (rd1 s').2).2).1,(rd4 (rd1 (rd1 (rd1 s').2).2).2).1⟩,(rd4 (rd1 (rd1 (rd1 s').2).2).2).2):=rfl
        rw [hch] at HRT
        have HONE:Aside0 (∀ s:RdS,s.1.length≤1000000000000→(rd1 s).2.1.length≤1000000000000):=⟨fun s h=>by have h1:=takeB_le 1 s;unfold rd1;simp only;omega⟩
        have HS5:=aK (HONE.out s' HSL.out)
        have I0:=aK (I.out.ofBelow (below_drew1 (Below.refl wr.heap.size wr)))
        have C1:=aK (fun V (h1:Below w.heap.size w V) (h2:RdAt w V br s')=>readOne w br s' V h1 I0.out.le.1 h2 HSL.out)
        generalize rd1 s'=r1 at *
        obtain ⟨a1,s5⟩:=r1
        simp only at C1 HS5 HRT
        have HS6:=aK (HONE.out s5 HS5.out)
        have C2:=aK (fun V (h1:Below w.heap.size w V) (h2:RdAt w V br s5)=>readOne w br s5 V h1 I0.out.le.1 h2 HS5.out)
        generalize rd1 s5=r2 at *
        obtain ⟨a2,s6⟩:=r2
        simp only at C2 HS6 HRT
        have R0:=aK I0.out.rd
        have B0:=aK I0.out.below
        have K0:=aK (KeepBut.refl wr.drew br none)
        have P1:Aside0 (wr.drew.cell? ⟨b4,0,none⟩=some (.pointer (some ⟨br,0,none⟩))):=⟨(blk_cell I0.out.ptr 0).trans rfl⟩
        have HPN:Aside0 (b4≠br):=⟨blk_ne I0.out.ptr R0.out.choose_spec.choose_spec.1 (by decide)⟩
        have HPT:=aK I0.out.ptr
        have HFR0:Aside0 (∀ V,KeepBut wr.drew V br none→V.heap.size≠br):=⟨fun V hV=>by have h1:=R0.out.lt;have h2:=hV.1;omega⟩
        have HEX:=aK (show ∀ V,KeepBut wr.drew V br none→wr.drew.heap.size≤V.heap.size from fun V hV=>hV.1)
        clear hb hsh hch HSL
        go_upto_region 25 with (fail)
        clear m0 p1
        refine start_ (n:=7) (S:=fun w'=>w'.cell? ⟨b4,0,none⟩=some (.pointer (some ⟨br,0,none⟩))) (ds:=[6]) #[false,false,false,false,false,false,false] (by kernel_rfl) rfl rfl (P1.out) (fun hHeld=>?_)
        refine tk 0 (some 77) ?_ rfl rfl (by kernel_rfl) (fun _ _ _ h=>h) (.inl ⟨by rfl,?_⟩) hHeld ?_ ?_ ?_;rotate_left;intro w' s0;go_simp;with_reducible rfl;rotate_left;simp only [nS];rfl
        refine tk 2 (some 79) ?_ rfl rfl (by kernel_rfl) (fun _ _ _ h=>h) (.inl ⟨by rfl,?_⟩) hHeld ?_ ?_ ?_;rotate_left;intro w' s0;go_simp;with_reducible rfl;rotate_left;simp only [nS];rfl
        refine join_ (σ:=Nat) 1 #[true,true,true,true,true,true,false] (fun bx=>[(78,.int .i64 a1),(80,.int .i64 a2),(81,.agg #[.int .i64 a1,.int .i64 a2,.int .i64 0,.int .i64 0]),(10,.pointer (some ⟨bx,0,none⟩))]) (fun bx w'=>wr.drew.heap.size≤bx∧bx≠br∧w'.heap[bx]?=some (.cells #[.int .i64 0,.int .i64 0,.int .i64 0,.int .i64 0] 45 (0,0))∧RdAt w w' br s6∧KeepBut wr.drew w' br none∧Below w.heap.size w w') ?_ ?_
        rotate_left
        ·intro hCont
         refine two_ (i:=1) (j:=5) (Ni:=some 78) (Nj:=some 10) #[true,true,true,false,false,false,false] #[true,false,true,false,false,true,false] rfl rfl rfl rfl (by kernel_rfl) (by decide) (by decide) (fun K hK=>?_) (fun K hK=>?_)
         ·skip
          refine goes_ Tryz.func45 (by kernel_rfl) rfl #[.pointer (some ⟨br,0,none⟩)] (by rfl) rfl rfl (by simp only [List.map_toArray,List.map_cons,List.map_nil];rfl) ?_
          refine (C1.out _ B0.out R0.out).mono ?_
          rintro e W1 ⟨rfl,hR,hB,hK⟩
          have R1:=aK hR
          have B1:=aK hB
          have K1:=aK (K0.out.trans hK (.inl rfl))
          clear hR hB hK
          refine ⟨_,rfl,?_⟩
          refine hK.out _ _ ((blk_cell (K1.out.blk HPT.out HPN.out (by simp)) 0).trans rfl) (fun hHeld=>?_)
          clear hK K
          refine norm_ (a':=?_) ?_ ?_;rotate_left;show Act.put _ (some 78) _=_;simp only [nS];rfl
          refine two_ (i:=3) (j:=5) (Ni:=some 80) (Nj:=some 10) #[true,true,true,true,false,false,false] #[true,true,true,false,false,true,false] rfl rfl rfl rfl (by kernel_rfl) (by decide) (by decide) (fun K hK=>?_) (fun K hK=>?_)
          ·skip
           refine goes_ Tryz.func45 (by kernel_rfl) rfl #[.pointer (some ⟨br,0,none⟩)] (by rfl) rfl rfl (by simp only [List.map_toArray,List.map_cons,List.map_nil];rfl) ?_
           refine (C2.out _ B1.out R1.out).mono ?_
           rintro e W2 ⟨rfl,hR,hB,hK⟩
           have R2:=aK hR
           have B2:=aK hB
           have K2:=aK (K1.out.trans hK (.inl rfl))
           clear hR hB hK
           refine ⟨_,rfl,?_⟩
           refine hK.out _ _ ((blk_cell (K2.out.blk HPT.out HPN.out (by simp)) 0).trans rfl) (fun hHeld=>?_)
           clear hK K
           refine norm_ (a':=?_) ?_ ?_;rotate_left;show Act.put _ (some 80) _=_;simp only [nS];rfl
           refine pu 4 (some 81) ?_ rfl rfl (by kernel_rfl) (fun _ _ _ h=>h) (.inl ⟨by rfl,?_⟩) ?_ ?_ ?_;rotate_left;intro w';go_simp;with_reducible rfl;rotate_left;simp only [nS];rfl
           refine one_ (i:=5) (N:=some 10) #[true,true,true,true,true,true,false] rfl rfl (by kernel_rfl) (by decide) (fun K hK=>?_)
           refine value_ (w1:=?_) (v:=?_) (by rfl) rfl ?_ ?_
           rotate_left 2
           ·go_simp
            constructor
            ·rfl
            ·rfl
           have X3:=aK (blk_new W2 (.cells #[.int .i64 0,.int .i64 0,.int .i64 0,.int .i64 0] 45))
           have K3:=aK (keep_alloc K2.out (.cells #[.int .i64 0,.int .i64 0,.int .i64 0,.int .i64 0] 45))
           have B3:=aK (below_alloc B2.out (.cells #[.int .i64 0,.int .i64 0,.int .i64 0,.int .i64 0] 45))
           have R3:=aK (RdAt.alloc_ R2.out (.cells #[.int .i64 0,.int .i64 0,.int .i64 0,.int .i64 0] 45))
           have HN_:=aK (HFR0.out _ K2.out)
           have HG_:=aK (HEX.out _ K2.out)
           refine hK.out _ _ ((blk_cell (K3.out.blk HPT.out HPN.out (by simp)) 0).trans rfl) (fun hHeld=>?_)
           clear hK K
           refine norm_ (a':=?_) ?_ ?_;rotate_left;show Act.put _ (some 10) _=_;simp only [nS];rfl
           exact norm_ (by simp only [putAll,Act.put,lS]) (hCont W2.heap.size _ ⟨HG_.out,HN_.out,X3.out,R3.out,K3.out,B3.out⟩)
          ·skip
           refine value_ (w1:=?_) (v:=?_) (by rfl) rfl ?_ ?_
           rotate_left 2
           ·go_simp
            constructor
            ·rfl
            ·rfl
           have X2:=aK (blk_new W1 (.cells #[.int .i64 0,.int .i64 0,.int .i64 0,.int .i64 0] 45))
           have K2:=aK (keep_alloc K1.out (.cells #[.int .i64 0,.int .i64 0,.int .i64 0,.int .i64 0] 45))
           have B2:=aK (below_alloc B1.out (.cells #[.int .i64 0,.int .i64 0,.int .i64 0,.int .i64 0] 45))
           have R2:=aK (RdAt.alloc_ R1.out (.cells #[.int .i64 0,.int .i64 0,.int .i64 0,.int .i64 0] 45))
           have HN_:=aK (HFR0.out _ K1.out)
           have HG_:=aK (HEX.out _ K1.out)
           refine hK.out _ _ ((blk_cell (K2.out.blk HPT.out HPN.out (by simp)) 0).trans rfl) (fun hHeld=>?_)
           clear hK K
           refine norm_ (a':=?_) ?_ ?_;rotate_left;show Act.put _ (some 10) _=_;simp only [nS];rfl
           refine one_ (i:=3) (N:=some 80) #[true,true,true,true,false,true,false] rfl rfl (by kernel_rfl) (by decide) (fun K hK=>?_)
           refine goes_ Tryz.func45 (by kernel_rfl) rfl #[.pointer (some ⟨br,0,none⟩)] (by rfl) rfl rfl (by simp only [List.map_toArray,List.map_cons,List.map_nil];rfl) ?_
           refine (C2.out _ B2.out R2.out).mono ?_
           rintro e W3 ⟨rfl,hR,hB,hK⟩
           have R3:=aK hR
           have B3:=aK hB
           have K3:=aK (K2.out.trans hK (.inl rfl))
           have X3:=aK (hK.blk X2.out HN_.out (by simp))
           clear hR hB hK
           refine ⟨_,rfl,?_⟩
           refine hK.out _ _ ((blk_cell (K3.out.blk HPT.out HPN.out (by simp)) 0).trans rfl) (fun hHeld=>?_)
           clear hK K
           refine norm_ (a':=?_) ?_ ?_;rotate_left;show Act.put _ (some 80) _=_;simp only [nS];rfl
           refine pu 4 (some 81) ?_ rfl rfl (by kernel_rfl) (fun _ _ _ h=>h) (.inl ⟨by rfl,?_⟩) ?_ ?_ ?_;rotate_left;intro w';go_simp;with_reducible rfl;rotate_left;simp only [nS];rfl
           exact norm_ (by simp only [putAll,Act.put,lS]) (hCont W1.heap.size _ ⟨HG_.out,HN_.out,X3.out,R3.out,K3.out,B3.out⟩)
         ·skip
          refine value_ (w1:=?_) (v:=?_) (by rfl) rfl ?_ ?_
          rotate_left 2
          ·go_simp
           constructor
           ·rfl
           ·rfl
          have X1:=aK (blk_new wr.drew (.cells #[.int .i64 0,.int .i64 0,.int .i64 0,.int .i64 0] 45))
          have K1:=aK (keep_alloc K0.out (.cells #[.int .i64 0,.int .i64 0,.int .i64 0,.int .i64 0] 45))
          have B1:=aK (below_alloc B0.out (.cells #[.int .i64 0,.int .i64 0,.int .i64 0,.int .i64 0] 45))
          have R1:=aK (RdAt.alloc_ R0.out (.cells #[.int .i64 0,.int .i64 0,.int .i64 0,.int .i64 0] 45))
          have HN_:=aK (HFR0.out _ K0.out)
          have HG_:=aK (HEX.out _ K0.out)
          refine hK.out _ _ ((blk_cell (K1.out.blk HPT.out HPN.out (by simp)) 0).trans rfl) (fun hHeld=>?_)
          clear hK K
          refine norm_ (a':=?_) ?_ ?_;rotate_left;show Act.put _ (some 10) _=_;simp only [nS];rfl
          refine one_ (i:=1) (N:=some 78) #[true,true,true,false,false,true,false] rfl rfl (by kernel_rfl) (by decide) (fun K hK=>?_)
          refine goes_ Tryz.func45 (by kernel_rfl) rfl #[.pointer (some ⟨br,0,none⟩)] (by rfl) rfl rfl (by simp only [List.map_toArray,List.map_cons,List.map_nil];rfl) ?_
          refine (C1.out _ B1.out R1.out).mono ?_
          rintro e W2 ⟨rfl,hR,hB,hK⟩
          have R2:=aK hR
          have B2:=aK hB
          have K2:=aK (K1.out.trans hK (.inl rfl))
          have X2:=aK (hK.blk X1.out HN_.out (by simp))
          clear hR hB hK
          refine ⟨_,rfl,?_⟩
          refine hK.out _ _ ((blk_cell (K2.out.blk HPT.out HPN.out (by simp)) 0).trans rfl) (fun hHeld=>?_)
          clear hK K
          refine norm_ (a':=?_) ?_ ?_;rotate_left;show Act.put _ (some 78) _=_;simp only [nS];rfl
          refine one_ (i:=3) (N:=some 80) #[true,true,true,true,false,true,false] rfl rfl (by kernel_rfl) (by decide) (fun K hK=>?_)
          refine goes_ Tryz.func45 (by kernel_rfl) rfl #[.pointer (some ⟨br,0,none⟩)] (by rfl) rfl rfl (by simp only [List.map_toArray,List.map_cons,List.map_nil];rfl) ?_
          refine (C2.out _ B2.out R2.out).mono ?_
          rintro e W3 ⟨rfl,hR,hB,hK⟩
          have R3:=aK hR
          have B3:=aK hB
          have K3:=aK (K2.out.trans hK (.inl rfl))
          have X3:=aK (hK.blk X2.out HN_.out (by simp))
          clear hR hB hK
          refine ⟨_,rfl,?_⟩
          refine hK.out _ _ ((blk_cell (K3.out.blk HPT.out HPN.out (by simp)) 0).trans rfl) (fun hHeld=>?_)
          clear hK K
          refine norm_ (a':=?_) ?_ ?_;rotate_left;show Act.put _ (some 80) _=_;simp only [nS];rfl
          refine pu 4 (some 81) ?_ rfl rfl (by kernel_rfl) (fun _ _ _ h=>h) (.inl ⟨by rfl,?_⟩) ?_ ?_ ?_;rotate_left;intro w';go_simp;with_reducible rfl;rotate_left;simp only [nS];rfl
          exact norm_ (by simp only [putAll,Act.put,lS]) (hCont wr.heap.size _ ⟨HG_.out,HN_.out,X3.out,R3.out,K3.out,B3.out⟩)
        rintro bx Wx ⟨hF1,hF2,hF3,hF4,hF5,hF6⟩
        have FX:=aK hF3
        have FR:=aK hF4
        have FK:=aK hF5
        have FB:=aK hF6
        have FG:=aK (And.intro hF1 hF2)
        have hHeld:Wx.cell? ⟨b4,0,none⟩=some (.pointer (some ⟨br,0,none⟩)):=(blk_cell (FK.out.blk HPT.out HPN.out (by simp)) 0).trans rfl
        clear hF1 hF2 hF3 hF4 hF5 hF6
        refine norm_ (a':=?_) ?_ ?_
        rotate_left
        ·simp only [putAll,Act.put,lS]
         rfl
        refine last_ (i:=6) (N:=none) #[true,true,true,true,true,true,true] rfl rfl (by kernel_rfl) (by decide) (fun K hK=>?_)
        have X8:=aK (setCells_four (v1:=.int .i64 a1) (v2:=.int .i64 a2) (v3:=.int .i64 0) (v4:=.int .i64 0) FX.out)
        have f0:=blk_frozen FX.out 0
        have f1:=blk_frozen FX.out 1
        have f2:=blk_frozen FX.out 2
        have f3:=blk_frozen FX.out 3
        have f4:=(blk_cell FX.out 0).trans rfl
        have f5:=(blk_cell FX.out 1).trans rfl
        have f6:=(blk_cell FX.out 2).trans rfl
        have f7:=(blk_cell FX.out 3).trans rfl
        refine skip_ (w1:=?_) (by rfl) rfl ?_ ?_
        rotate_left
        ·go_simp
         rfl
        refine hK.out _ _ ?_
        clear hK K
        refine done_ (by kernel_rfl) ?_
        have HW0:w.heap.size≤bx:=Nat.le_trans I0.out.below.size FG.out.1
        have HWX:=aK HW0
        have X8:Aside0 (((((Wx.setCell ⟨bx,0,none⟩ (.int .i64 a1)).setCell ⟨bx,1,none⟩ (.int .i64 a2)).setCell ⟨bx,2,none⟩ (.int .i64 0)).setCell ⟨bx,3,none⟩ (.int .i64 0)).heap[bx]?=some (.cells #[.int .i64 a1,.int .i64 a2,.int .i64 0,.int .i64 0] 45 (0,0))):=⟨X8.out⟩
        have K8:=aK (keep_far (p:=⟨bx,3,none⟩) (keep_far (p:=⟨bx,2,none⟩) (keep_far (p:=⟨bx,1,none⟩) (keep_far (p:=⟨bx,0,none⟩) FK.out FG.out.1 (.int .i64 a1)) FG.out.1 (.int .i64 a2)) FG.out.1 (.int .i64 0)) FG.out.1 (.int .i64 0))
        have B8:Aside0 (Below w.heap.size w ((((Wx.setCell ⟨bx,0,none⟩ (.int .i64 a1)).setCell ⟨bx,1,none⟩ (.int .i64 a2)).setCell ⟨bx,2,none⟩ (.int .i64 0)).setCell ⟨bx,3,none⟩ (.int .i64 0))):=⟨below_set (below_set (below_set (below_set FB.out HW0) HW0) HW0) HW0⟩
        have R8:Aside0 (RdAt w ((((Wx.setCell ⟨bx,0,none⟩ (.int .i64 a1)).setCell ⟨bx,1,none⟩ (.int .i64 a2)).setCell ⟨bx,2,none⟩ (.int .i64 0)).setCell ⟨bx,3,none⟩ (.int .i64 0)) br s6):=⟨((((FR.out.step (Below.heap_setCell _ _ _ _ (Ne.symm FG.out.2))).step (Below.heap_setCell _ _ _ _ (Ne.symm FG.out.2))).step (Below.heap_setCell _ _ _ _ (Ne.symm FG.out.2))).step (Below.heap_setCell _ _ _ _ (Ne.symm FG.out.2)))⟩
        generalize (((Wx.setCell ⟨bx,0,none⟩ (.int .i64 a1)).setCell ⟨bx,1,none⟩ (.int .i64 a2)).setCell ⟨bx,2,none⟩ (.int .i64 0)).setCell ⟨bx,3,none⟩ (.int .i64 0)=Wy at *
        clear HW0 f0 f1 f2 f3 f4 f5 f6 f7 FX FR FK FB C1 C2 R0 B0 K0 P1 HFR0 HEX HS5
        have m0:Wy.cell? ⟨b4,0,none⟩=some (.pointer (some ⟨br,0,none⟩)):=(blk_cell (K8.out.blk HPT.out HPN.out (by simp)) 0).trans rfl
        go_wp2_with fail
        refine (readOne w br s6 Wy B8.out I0.out.le.1 R8.out HS6.out).mono ?_
        have HS7:=aK (HONE.out s6 HS6.out)
        generalize rd1 s6=r3 at *
        obtain ⟨a3,s7⟩:=r3
        simp only at HRT HS7
        rintro e W6 ⟨rfl,hR,hB,hK⟩
        simp only at hR
        have R9:=aK hR
        have B9:=aK hB
        have X9:=aK (hK.blk X8.out FG.out.2 (by simp))
        have K9:=aK (K8.out.trans hK (.inl rfl))
        clear hR hB hK m0 R8 B8 X8 K8 HS6
        have g1:=blk_frozen X9.out 2
        have g2:=(blk_cell X9.out 2).trans rfl
        have X10:=aK (blk_put X9.out 2 (.int .i64 a3) rfl)
        have K10:=aK (keep_far (p:=⟨bx,2,none⟩) K9.out FG.out.1 (.int .i64 a3))
        have B10:Aside0 (Below w.heap.size w (W6.setCell ⟨bx,2,none⟩ (.int .i64 a3))):=⟨below_set B9.out HWX.out⟩
        have R10:Aside0 (RdAt w (W6.setCell ⟨bx,2,none⟩ (.int .i64 a3)) br s7):=⟨R9.out.step (Below.heap_setCell _ _ _ _ (Ne.symm FG.out.2))⟩
        go_upto_region 27 with (fail)
        generalize W6.setCell ⟨bx,2,none⟩ (.int .i64 a3)=Wz at *
        clear g1 g2 R9 B9 X9 K9
        have m0:Wz.cell? ⟨b4,0,none⟩=some (.pointer (some ⟨br,0,none⟩)):=(blk_cell (K10.out.blk HPT.out HPN.out (by simp)) 0).trans rfl
        go_wp2_with fail
        refine (readFour w br s7 Wz B10.out I0.out.le.1 R10.out HS7.out).mono ?_
        have HS8:Aside0 ((rd4 s7).2.1.length≤1000000000000):=⟨by have h1:=takeB_le 4 s7;have h2:=HS7.out;unfold rd4;simp only;omega⟩
        generalize rd4 s7=r4 at *
        obtain ⟨a4,s8⟩:=r4
        simp only at HRT HS8
        rintro e W7 ⟨rfl,hR,hB,hK⟩
        simp only at hR
        have R11:=aK hR
        have B11:=aK hB
        have X11:=aK (hK.blk X10.out FG.out.2 (by simp))
        have K11:=aK (K10.out.trans hK (.inl rfl))
        clear hR hB hK m0 R10 B10 X10 K10 HS7
        have g1:=blk_frozen X11.out 3
        have g2:=(blk_cell X11.out 3).trans rfl
        have X13:=aK (blk_put X11.out 3 (.int .i64 a4) rfl)
        have I13:Aside0 (OpenI w (W7.setCell ⟨bx,3,none⟩ (.int .i64 a4)) w.heap.size br b4 bm bt sz s8 T cs rs):=⟨I0.out.ofRead (R11.out.step (Below.heap_setCell _ _ _ _ (Ne.symm FG.out.2))) (below_set B11.out HWX.out) (keep_far (p:=⟨bx,3,none⟩) K11.out FG.out.1 (.int .i64 a4))⟩
        go_upto_region 28 with (fail)
        generalize W7.setCell ⟨bx,3,none⟩ (.int .i64 a4)=W13 at *
        clear g1 g2 R11 B11 X11 K11 HPT HPN FG HWX HONE I0
        obtain ⟨v1,v2,hm,-,ho1⟩:=I13.out.met
        obtain ⟨A19,k19,rfl⟩:=Kd.R_slice ho1
        have q0:=blk_frozen hm 2
        have q1:=(blk_cell hm 2).trans rfl
        have y0:=(blk_cell X13.out 0).trans rfl
        have y1:=(blk_cell X13.out 1).trans rfl
        have y2:=(blk_cell X13.out 2).trans rfl
        have y3:=(blk_cell X13.out 3).trans rfl
        have HO:=aK ho1
        have HMM:=aK hm
        clear hm ho1
        go_wp2_with ((with_reducible refine gate_builtin (b:=.append) (xs:=#[.tmp 89,.tmp 91]) rfl ?_);at_builtin;refine Kd.R_append k45 (w0:=w) w.heap.size rfl (.tmp 89) (.tmp 91) 23 45 (.agg #[.int .i64 0,.int .i64 0,.int .i64 0,.int .i64 0]) 32 rfl Tryz.underlying23 info45 rfl (by decide) (by omega) (.slice A19 rs.length k19) rs (⟨a1,a2,a3,a4⟩:S45) [.int .i64 a1,.int .i64 a2,.int .i64 a3,.int .i64 a4] (fun _=>True) (fun _=>False) rfl rfl (k45_mkM _ _ _ (⟨a1,a2,a3,a4⟩:S45)) (fun _ h=>h.elim) (fun _ _=>trivial) HO.out I13.out.below I13.out.below.size HTN2.out ?_;intro v9 w9 ho9 hb9 hg9 hat9;obtain ⟨A29,k29,rfl⟩:=Kd.R_slice ho9;have HT9:=(KeepT.of_row HO.out hg9).blk HMM.out (by decide);have f0:=blk_frozen HT9 2;have f1:=(blk_cell HT9 2).trans rfl;have I14:=aK (I13.out.appR hb9 ((blk_cell HMM.out 2).trans rfl) ho9 hg9);clear ho9 hb9 hg9 hat9 HT9 q0 q1 y0 y1 y2 y3)
        have HRT2:Aside0 (rc=((rs++[⟨a1,a2,a3,a4⟩])++(rdRules m s8).1,(rdRules m s8).2)):=⟨by rw [HRT.out];simp⟩
        have HTL2:Aside0 ((rs++[(⟨a1,a2,a3,a4⟩:S45)]).length=jj+1):=⟨by have:=HTL.out;simp;omega⟩
        have I15:=I14.out
        have hlen1:(rs++[(⟨a1,a2,a3,a4⟩:S45)]).length=rs.length+1:=by simp
        rw [hlen1] at I15
        have I16:=aK I15
        clear I15 I14 f0 f1 hlen1
        go_roundg (n2-(jj+1))
        case measure=>have:=HM.out;omega
        case rel=>exact ⟨jj+1,s8,rs++[⟨a1,a2,a3,a4⟩],HN2.out,by omega,by first|exact congrArg (Value.int .i64) HSTEP2.out|go_num,⟨by rw [HM.out];exact HRT2.out⟩,HTL2,I16,HS8⟩
      ·have hji : ¬ (jj:Int)<(n2:Int):=by omega
       obtain rfl:jj=n2:=by omega
       rw [Nat.sub_self,rdRules,List.append_nil] at HRT
       go_wp2
       go_meet
       case rel=>exact ⟨by rw [HRT.out];exact I,by rw [HRT.out];exact HSL⟩
    case rest =>
     obtain ⟨I2,HS4⟩:=hcut
     clear I1 HS3
     obtain ⟨rs,s5⟩:=rc
     simp only at I2 HS4
     have HP:Aside0 (parseB b=(sz,cs,rs,s5.2)):=⟨parse_is HSE.out HZE.out HTS.out HE2.out HRC.out HE3.out HRC2.out⟩
     have HLC:Aside0 (cs.length≤65536):=⟨by have h1:=rdChars_len T n s2;rw [HRC.out] at h1;have h2:=HNB.out;simp only at h1;omega⟩
     have HLR:Aside0 (rs.length≤65536):=⟨by have h1:=rdRules_len n2 s4;rw [HRC2.out] at h1;have h2:=HNB2.out;simp only at h1;omega⟩
     clear HSE HZE HTS HE2 HRC HE3 HRC2 HNB HNB2 HS4
     obtain ⟨A0,c0,hb,-⟩:=I2.out.rd
     have p1:=(blk_cell hb 1).trans rfl
     have m0:=(blk_cell I2.out.ptr 0).trans rfl
     cases hsh:s5.2 with
     | true =>
      rw [hsh] at p1 HP
      have HO:Aside0 (openB b=(0,[],[],30)):=⟨by unfold openB;rw [HP.out];rfl⟩
      clear hb hsh
      have q0:=blk_frozen I2.out.res 0
      have q1:=blk_frozen I2.out.res 1
      have q2:=blk_frozen I2.out.res 2
      have q3:=(blk_cell I2.out.res 0).trans rfl
      have q4:=(blk_cell I2.out.res 1).trans rfl
      have q5:=(blk_cell I2.out.res 2).trans rfl
      have X3:=aK (blk_put (blk_put (blk_put I2.out.res 0 (.int .i64 0) rfl) 1 (.slice none 0 0) rfl) 2 (.slice none 0 0) rfl)
      go_wp2
      refine bodyPost_ret (results_ct rfl _ _ w.heap.size 25 #[.int .i64 0,.slice none 0 0,.slice none 0 0] (0,0) _ rfl X3.out Tryz.underlying25 rfl (by kernel_rfl)) rfl ?_
      rw [HO.out]
      exact ⟨.slice none 0 0,.slice none 0 0,rfl,Kd.R_nil _ _ _ _ _,Kd.R_nil _ _ _ _ _,below_set (below_set (below_set I2.out.below (Nat.le_refl _)) (Nat.le_refl _)) (Nat.le_refl _)⟩
     | false =>
      rw [hsh] at p1 HP
      obtain ⟨v1,v2,hm,ho1,ho2⟩:=I2.out.met
      obtain ⟨A19,k19,rfl⟩:=Kd.R_slice ho1
      obtain ⟨A29,k29,rfl⟩:=Kd.R_slice ho2
      have g0:=(blk_cell hm 0).trans rfl
      have g1:=(blk_cell hm 1).trans rfl
      have g2:=(blk_cell hm 2).trans rfl
      have HMM:=aK hm
      have HO1:=aK ho1
      have HO2:=aK ho2
      have hc:=valid_calls sz A19 k19 cs A29 k29 rs wc (Kd.R_reads' ho1).2.2 (Kd.R_reads' ho2).2.2 (by have:=HLC.out;omega) (by have:=HLR.out;omega)
      cases hv:validM sz cs rs with
      | false =>
       have HO:Aside0 (openB b=(0,[],[],30)):=⟨by unfold openB;rw [HP.out];simp only [hv];rfl⟩
       rw [hv] at hc
       clear hb hsh hv hm ho1 ho2
       go_wp2_with fail
       refine hc.mono ?_
       clear hc g0 g1 g2 m0 p1
       rintro e W8 ⟨rfl,hb8⟩
       have I8:=aK (I2.out.ofBelow hb8)
       clear hb8 I2 HMM HO1 HO2
       have q0:=blk_frozen I8.out.res 0
       have q1:=blk_frozen I8.out.res 1
       have q2:=blk_frozen I8.out.res 2
       have q3:=(blk_cell I8.out.res 0).trans rfl
       have q4:=(blk_cell I8.out.res 1).trans rfl
       have q5:=(blk_cell I8.out.res 2).trans rfl
       have X3:=aK (blk_put (blk_put (blk_put I8.out.res 0 (.int .i64 0) rfl) 1 (.slice none 0 0) rfl) 2 (.slice none 0 0) rfl)
       go_wp2
       refine bodyPost_ret (results_ct rfl _ _ w.heap.size 25 #[.int .i64 0,.slice none 0 0,.slice none 0 0] (0,0) _ rfl X3.out Tryz.underlying25 rfl (by kernel_rfl)) rfl ?_
       rw [HO.out]
       exact ⟨.slice none 0 0,.slice none 0 0,rfl,Kd.R_nil _ _ _ _ _,Kd.R_nil _ _ _ _ _,below_set (below_set (below_set I8.out.below (Nat.le_refl _)) (Nat.le_refl _)) (Nat.le_refl _)⟩
      | true =>
       have hle:cs.length≤1000∧rs.length≤1000:=by
        unfold validM validR at hv
        simp only [Bool.and_eq_true,decide_eq_true_eq] at hv
        omega
       have HLL:=aK hle
       have HOP:Aside0 (openB b=if fileB sz cs rs=b then (sz,cs,rs,0) else (0,[],[],30)):=⟨by
        unfold openB
        rw [HP.out]
        simp only [hv]
        by_cases hq:fileB sz cs rs=b
        ·rw [if_pos hq,decide_eq_true hq];rfl
        ·rw [if_neg hq,decide_eq_false hq];rfl⟩
       rw [hv] at hc
       clear hb hsh hv hm ho1 ho2 hle
       go_wp2_with fail
       refine hc.mono ?_
       clear hc g0 g1 g2 m0 p1
       rintro e W8 ⟨rfl,hb8⟩
       have I8:=aK (I2.out.ofBelow hb8)
       have HM8:=aK (blk_below HMM.out hb8)
       have HO18:=aK (Kd.R_below HO1.out hb8)
       have HO28:=aK (Kd.R_below HO2.out hb8)
       clear hb8 I2 HMM HO1 HO2
       have g0:=(blk_cell HM8.out 0).trans rfl
       have g1:=(blk_cell HM8.out 1).trans rfl
       have g2:=(blk_cell HM8.out 2).trans rfl
       have hc:=pack_calls sz A19 k19 cs A29 k29 rs W8 (Kd.R_reads' HO18.out).2.2 (Kd.R_reads' HO28.out).2.2 HLL.out.1 HLL.out.2
       have HFL:Aside0 ((fileB sz cs rs).length≤1000000000000):=⟨by have:=fileB_len sz cs rs HLL.out.1 HLL.out.2;omega⟩
       obtain ⟨fl,hfl⟩ : ∃ fl,fileB sz cs rs=fl:=⟨_,rfl⟩
       rw [hfl] at hc HOP HFL
       clear hfl
       go_wp2_with fail
       refine hc.mono ?_
       clear hc g0 g1 g2
       rintro e W9 ⟨v9,rfl,ho9,hb9⟩
       obtain ⟨Af,cf,rfl⟩:=Kd.R_slice ho9
       have I9:=aK (I8.out.ofBelow hb9)
       have HM9:=aK (blk_below HM8.out hb9)
       have HO19:=aK (Kd.R_below HO18.out hb9)
       have HO29:=aK (Kd.R_below HO28.out hb9)
       have hrf:=Kd.R_reads' ho9
       have hc:=slices_Equal_byte_byte.calls (fl.length+1) Af cf fl A c b (decide (fl=b)) W9 hrf.2.2 hrf.2.1 (Kd.C_below HRB.out I9.out.below) HCB.out (equal_is fl b HFL.out)
       clear hb9 I8 HM8 HO18 HO28 hrf ho9
       by_cases hq:fl=b
       ·rw [decide_eq_true hq] at hc
        have HO:Aside0 (openB b=(sz,cs,rs,0)):=⟨by rw [HOP.out,if_pos hq]⟩
        clear hq HOP
        go_wp2_with fail
        refine hc.mono ?_
        clear hc
        rintro e W10 ⟨rfl,⟨n10,rfl⟩⟩
        have I10:=aK (I9.out.ofBelow (pw_below_drewN (Below.refl W9.heap.size W9) n10))
        have HM10:=aK (blk_drewN HM9.out n10)
        have HO110:=aK (Kd.R_drewN HO19.out n10)
        have HO210:=aK (Kd.R_drewN HO29.out n10)
        generalize W9.drewN n10=W10 at *
        clear I9 HM9 HO19 HO29
        have q0:=blk_frozen I10.out.res 0
        have q1:=blk_frozen I10.out.res 1
        have q2:=blk_frozen I10.out.res 2
        have q3:=(blk_cell I10.out.res 0).trans rfl
        have q4:=(blk_cell I10.out.res 1).trans rfl
        have q5:=(blk_cell I10.out.res 2).trans rfl
        have g0:=(blk_cell HM10.out 0).trans rfl
        have g1:=(blk_cell HM10.out 1).trans rfl
        have g2:=(blk_cell HM10.out 2).trans rfl
        have X3:=aK (blk_put (blk_put (blk_put I10.out.res 0 (.int .i64 sz) rfl) 1 (.slice A19 cs.length k19) rfl) 2 (.slice A29 rs.length k29) rfl)
        have X2:=aK (blk_put (blk_put I10.out.res 0 (.int .i64 sz) rfl) 1 (.slice A19 cs.length k19) rfl)
        have X1:=aK (blk_put I10.out.res 0 (.int .i64 sz) rfl)
        go_wp2
        refine bodyPost_ret (results_ct rfl _ _ w.heap.size 25 #[.int .i64 sz,.slice A19 cs.length k19,.slice A29 rs.length k29] (0,0) _ rfl X3.out Tryz.underlying25 rfl (by kernel_rfl)) rfl ?_
        rw [HO.out]
        exact ⟨.slice A19 cs.length k19, .slice A29 rs.length k29, rfl,
         Kd.R_set (Kd.R_set (Kd.R_set HO110.out I10.out.res (fun q hq=>by rw [opq50 q hq];decide) 0 _) X1.out (fun q hq=>by rw [opq50 q hq];decide) 1 _) X2.out (fun q hq=>by rw [opq50 q hq];decide) 2 _,
         Kd.R_set (Kd.R_set (Kd.R_set HO210.out I10.out.res (fun q hq=>by rw [opq45 q hq];decide) 0 _) X1.out (fun q hq=>by rw [opq45 q hq];decide) 1 _) X2.out (fun q hq=>by rw [opq45 q hq];decide) 2 _,
         below_set (below_set (below_set I10.out.below (Nat.le_refl _)) (Nat.le_refl _)) (Nat.le_refl _)⟩
       ·rw [decide_eq_false hq] at hc
        have HO:Aside0 (openB b=(0,[],[],30)):=⟨by rw [HOP.out,if_neg hq]⟩
        clear hq HOP
        go_wp2_with fail
        refine hc.mono ?_
        clear hc
        rintro e W10 ⟨rfl,⟨n10,rfl⟩⟩
        have I10:=aK (I9.out.ofBelow (pw_below_drewN (Below.refl W9.heap.size W9) n10))
        generalize W9.drewN n10=W10 at *
        clear I9 HM9 HO19 HO29
        have q0:=blk_frozen I10.out.res 0
        have q1:=blk_frozen I10.out.res 1
        have q2:=blk_frozen I10.out.res 2
        have q3:=(blk_cell I10.out.res 0).trans rfl
        have q4:=(blk_cell I10.out.res 1).trans rfl
        have q5:=(blk_cell I10.out.res 2).trans rfl
        have X3:=aK (blk_put (blk_put (blk_put I10.out.res 0 (.int .i64 0) rfl) 1 (.slice none 0 0) rfl) 2 (.slice none 0 0) rfl)
        go_wp2
        refine bodyPost_ret (results_ct rfl _ _ w.heap.size 25 #[.int .i64 0,.slice none 0 0,.slice none 0 0] (0,0) _ rfl X3.out Tryz.underlying25 rfl (by kernel_rfl)) rfl ?_
        rw [HO.out]
        exact ⟨.slice none 0 0,.slice none 0 0,rfl,Kd.R_nil _ _ _ _ _,Kd.R_nil _ _ _ _ _,below_set (below_set (below_set I10.out.below (Nat.le_refl _)) (Nat.le_refl _)) (Nat.le_refl _)⟩
end Go.Proofs.YtoemkemmiikhlaaGreat.PF4
