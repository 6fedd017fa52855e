import Derived.Test.YtckjlckhjcbddaaGreatPG3x0
import Derived.Test.YtckjlckhjcbddaaGreatPG3x3
import Derived.Test.YtckjlckhjcbddaaGreatPG3x4
import Derived.Test.YtckjlckhjcbddaaGreatPG3x5
import Derived.Test.YtckjlckhjcbddaaGreatPG3x7
import Derived.Test.YtckjlckhjcbddaaGreatPG3x8
import Derived.Test.YtckjlckhjcbddaaGreatPG3x9
set_option maxRecDepth 100000
namespace Go.Proofs.YtckjlckhjcbddaaGreat.PG3
open Go.RowKit Go.Proofs.YtckjlckhjcbddaaGreatW.PrintWords Go.Proofs.YtckjlckhjcbddaaGreatW.PrintLast Go.Proofs.YtckjlckhjcbddaaGreatW.PrintMore
attribute [local go_sem] max2_int min2_int max_two min_two max_three min_three max_four min_four
set_option linter.unusedVariables false
set_option linter.unusedSimpArgs false
def idxFromX (p:S23→Bool):List S23→Int→Int
 | [],_=>-1
 | x::xs,i=>if p x then i else idxFromX p xs (i+1)
theorem idxFromX_nonneg (p:S23→Bool) : ∀ (xs:List S23) (i:Int),0≤i→(decide (0≤idxFromX p xs i)=xs.any p)
 | [],i,_=>by simp [idxFromX]
 | x::xs,i,h=>by
  unfold idxFromX
  by_cases hx:p x=true
  ·simp [hx,h]
  ·simp [hx,idxFromX_nonneg p xs (i+1) (by omega)]
theorem rd_dropX (xs:List S23) (i:Nat) (h:i<xs.length):xs.drop i=rd_T23 xs (i:Int)::xs.drop (i+1):=by
 rw [List.drop_eq_getElem_cons h]
 congr 1
 simp [rd_T23,List.getD_eq_getElem?_getD,List.getElem?_eq_getElem h]
set_option maxHeartbeats 2000000 in
theorem IndexFunc_prs (g:Nat) (lb:Array Value) (p:S23→Bool) (eg : ∀ args w,(callFunc g args).run Tryz.prog w = .ok (.enter g args) w) (A0:Option Addr) (c0:Nat) (l0:List S23) (w:World)
  (hp : ∀ (W:World) (x:S23),Below w.heap.size w W→Calls Tryz.prog g (#[.agg #[.int .i64 x.f0,.int .i64 x.f1]]++lb) W fun e w'=>e = .returned (.bool (p x))∧Below w.heap.size w w')
  (hr0:Kd.C k23 w A0 l0.length l0) (hlen:l0.length≤9223372036854775807) :
  Calls Tryz.prog 89 #[.slice A0 l0.length c0,.func (.func g) #[] lb] w fun e w'=>e = .returned (.int .i64 (idxFromX p l0 0))∧Below w.heap.size w w':=by
 have hu:=Tryz.underlying23
 have HR0:=aK hr0
 have HP:=aK hp
 clear hr0 hp
 have HB:=aK (Below.refl w.heap.size w)
 go_enter Tryz.func89,Tryz.ntmps89
 go_wp2
 go_loopg [8] l0.length (fun gg s8 wr=>∃ kk:Nat,kk≤l0.length∧l0.length-kk≤gg∧s8 = .int .i64 kk∧Aside0 (idxFromX p l0 0=idxFromX p (l0.drop kk) kk)∧Aside0 (Below w.heap.size w wr))
 case atStart=>exact ⟨0,Nat.zero_le _,by omega,rfl,⟨rfl⟩,HB⟩
 case round =>
  obtain ⟨kk,hkk,hg,rfl,HI,HB⟩:=hrel
  by_cases hlt:kk<l0.length
  ·have hlti:(kk:Int)<(l0.length:Int):=by omega
   obtain ⟨ad,rfl,hx0,hx1⟩:=at_T23 HR0.out (kk:Int) (by omega) hlti
   have hcall:=HP.out wr (rd_T23 l0 (kk:Int)) HB.out
   have hd:=rd_dropX l0 kk hlt
   have HI2:Aside0 (idxFromX p l0 0=if p (rd_T23 l0 (kk:Int)) then (kk:Int) else idxFromX p (l0.drop (kk+1)) ((kk:Int)+1)):=⟨by rw [HI.out,hd];rfl⟩
   clear HI hd
   have hx0':=(HB.out.cell (World.block_lt_of_cell? w _ hx0)).trans hx0
   have hx1':=(HB.out.cell (World.block_lt_of_cell? w _ hx1)).trans hx1
   clear hx0 hx1
   simp only [Int.toNat_natCast] at hx0' hx1'
   generalize rd_T23 l0 (kk:Int)=x at *
   cases hq:p x with
   | true =>
    rw [hq] at hcall
    have hi:idxFromX p l0 0=(kk:Int):=by have:=HI2.out;rw [hq] at this;exact this
    have HI3:=aK hi
    clear hi HI2 hq
    go_wp2_with fail
    refine hcall.mono ?_
    clear hcall
    rintro e w' ⟨rfl,hb'⟩
    go_wp2
    go_ret
    exact ⟨by rw [HI3.out];rfl,hb'⟩
   | false =>
    rw [hq] at hcall
    have hi:idxFromX p l0 0=idxFromX p (l0.drop (kk+1)) ((kk:Int)+1):=by have:=HI2.out;rw [hq] at this;exact this
    have HI3:=aK hi
    clear hi HI2 hq
    go_wp2_with fail
    refine hcall.mono ?_
    clear hcall
    rintro e w' ⟨rfl,hb'⟩
    go_wp2
    go_roundg (l0.length-(kk+1))
    case measure=>omega
    case rel=>exact ⟨kk+1,by omega,by omega,by go_num,⟨HI3.out⟩,⟨hb'⟩⟩
  ·have hlti : ¬ (kk:Int)<(l0.length:Int):=by omega
   have hi:idxFromX p l0 0 = -1:=by rw [HI.out,List.drop_eq_nil_of_le (by omega)];rfl
   have HI3:=aK hi
   clear hi HI
   go_wp2
   go_ret
   exact ⟨by rw [HI3.out];rfl,HB.out⟩
set_option maxHeartbeats 2000000 in
theorem ContainsFunc_prs (g:Nat) (lb:Array Value) (p:S23→Bool) (eg : ∀ args w,(callFunc g args).run Tryz.prog w = .ok (.enter g args) w) (A0:Option Addr) (c0:Nat) (l0:List S23) (w:World)
  (hp : ∀ (W:World) (x:S23),Below w.heap.size w W→Calls Tryz.prog g (#[.agg #[.int .i64 x.f0,.int .i64 x.f1]]++lb) W fun e w'=>e = .returned (.bool (p x))∧Below w.heap.size w w')
  (hr0:Kd.C k23 w A0 l0.length l0) (hlen:l0.length≤9223372036854775807) :
  Calls Tryz.prog 56 #[.slice A0 l0.length c0,.func (.func g) #[] lb] w fun e w'=>e = .returned (.bool (l0.any p))∧Below w.heap.size w w':=by
 have hc:=IndexFunc_prs g lb p eg A0 c0 l0 w hp hr0 hlen
 have HA:=aK (idxFromX_nonneg p l0 0 (by omega))
 clear hp hr0
 generalize idxFromX p l0 0=n at *
 go_enter Tryz.func56,Tryz.ntmps56
 go_wp2_with fail
 refine hc.mono ?_
 clear hc
 rintro e w' ⟨rfl,hb'⟩
 go_wp2
 go_ret
 exact ⟨by rw [← HA.out];rfl,hb'⟩
def inSpan (i:Int) (x:S23):Bool:=decide (x.f0≤i) && decide (i<x.f1)
set_option maxHeartbeats 2000000 in
theorem hasX1_calls (i:Int) (b:Nat) (x:S23) (W:World) (h:W.heap[b]?=some (.cells #[.int .i64 i] 3 (0,0))) :
  Calls Tryz.prog 57 #[.agg #[.int .i64 x.f0,.int .i64 x.f1],.pointer (some ⟨b,0,none⟩)] W fun e w'=>e = .returned (.bool (inSpan i x))∧Below W.heap.size W w':=by
 have hu:=Tryz.underlying23
 have K1:=blk_alloc h (.cells #[.int .i64 x.f0,.int .i64 x.f1] 23)
 have K2:=blk_new W (.cells #[.int .i64 x.f0,.int .i64 x.f1] 23)
 have p0:=(blk_cell K1 0).trans rfl
 have p1:=(blk_cell K2 0).trans rfl
 have p2:=(blk_cell K2 1).trans rfl
 have HB:=aK (below_alloc (Below.refl W.heap.size W) (.cells #[.int .i64 x.f0,.int .i64 x.f1] 23))
 clear h K1 K2
 unfold inSpan
 obtain ⟨x0,x1⟩:=x
 simp only at *
 by_cases h0:x0≤i
 ·have d0:decide (x0≤i)=true:=decide_eq_true h0
  go_enter Tryz.func57,Tryz.ntmps57
  go_wp2
  go_ret
  exact ⟨by simp [d0],HB.out⟩
 ·have d0:decide (x0≤i)=false:=decide_eq_false h0
  go_enter Tryz.func57,Tryz.ntmps57
  go_wp2
  go_ret
  exact ⟨by simp [d0],HB.out⟩
def scan_Has.f (k:Nat) (l0:List S23) (a1:Int):Option (Bool×Int):=(scan_Valid.f k l0 256).bind fun v=>if v=true then (if l0.length≤1000000 then some (l0.any (inSpan a1),0) else none) else some (false,2)
theorem scan_Has.mono : ∀ a0 a1 k,LeO (scan_Has.f k a0 a1) (scan_Has.f (k+1) a0 a1):=by
 intro a0 a1 k
 unfold scan_Has.f
 exact LeO.bind (scan_Valid.mono _ _ _) (fun _=>LeO.refl _)
set_option maxHeartbeats 2000000 in
theorem scan_Has.calls (k:Nat) (A0:Option Addr) (c0:Nat) (l0:List S23) (a1:Int) (r1:Bool) (r2:Int) (w:World) (hr0:Kd.C k23 w A0 l0.length l0) (hc0:l0.length≤c0) (h:scan_Has.f k l0 a1=some (r1,r2)) :
  Calls Tryz.prog 25 #[.slice A0 l0.length c0,.int .i64 a1] w fun e w'=>e = .returned (.tuple #[.bool r1,.int .i64 r2])∧Below w.heap.size w w':=by
 have hu:=Tryz.underlying23
 obtain ⟨v,hv,h⟩:=Option.bind_eq_some_iff.mp h
 have HV:=aK hv
 have K:=aK (blk_new w (.cells #[.int .i64 a1] 3))
 have HB:=aK (below_alloc (Below.refl w.heap.size w) (.cells #[.int .i64 a1] 3))
 have HR:=aK (Kd.C_below hr0 HB.out)
 have HC:=aK hc0
 clear hr0 hc0 hv
 cases v with
 | false =>
  simp only [Bool.false_eq_true,if_false,Option.some.injEq,Prod.mk.injEq] at h
  obtain ⟨rfl,rfl⟩:=h
  go_enter Tryz.func25,Tryz.ntmps25
  go_wp2_with fail
  refine (scan_Valid.calls k A0 c0 l0 256 false _ HR.out HC.out HV.out).mono ?_
  rintro e W1 ⟨rfl,hb⟩
  go_wp2
  go_ret2
  exact ⟨rfl,below_step HB.out hb⟩
 | true =>
  by_cases hl:l0.length≤1000000
  case neg=>rw [if_pos rfl,if_neg hl] at h;cases h
  rw [if_pos rfl,if_pos hl] at h
  simp only [Option.some.injEq,Prod.mk.injEq] at h
  obtain ⟨rfl,rfl⟩:=h
  have HL:=aK (show l0.length≤9223372036854775807 by omega)
  clear hl
  go_enter Tryz.func25,Tryz.ntmps25
  go_wp2_with fail
  refine (scan_Valid.calls k A0 c0 l0 256 true _ HR.out HC.out HV.out).mono ?_
  rintro e W1 ⟨rfl,hb⟩
  have HB1:=aK (below_step HB.out hb)
  have HR1:=aK (Kd.C_below HR.out hb)
  have K1:=aK (blk_below K.out hb)
  clear hb HB HR K
  go_wp2_with fail
  refine (ContainsFunc_prs 57 #[.pointer (some ⟨w.heap.size,0,none⟩)] (inSpan a1) (enters_own Tryz.func57 (by kernel_rfl) rfl) A0 c0 l0 W1 (fun W x hbW=>(hasX1_calls a1 w.heap.size x W (blk_below K1.out hbW)).mono (fun e w' he=>⟨he.1,below_step hbW he.2⟩)) HR1.out HL.out).mono ?_
  rintro e W2 ⟨rfl,hb⟩
  go_wp2
  go_ret2
  exact ⟨rfl,below_step HB1.out hb⟩
def wayB (a b:S47) (y:Int):Int:=if a.f1≤y∧y<b.f1 then 1 else if b.f1≤y∧y<a.f1 then -1 else 0
def crossB (a b p:S47):Int:=(b.f0-a.f0)*(p.f1-a.f1)-(b.f1-a.f1)*(p.f0-a.f0)
def sgnB (n:Int):Int:=if n<0 then -1 else if 0<n then 1 else 0
def sideB (a b p:S47):Int:=sgnB (crossB a b p)*wayB a b p.f1
def ctermB (a b p:S47) (side:Int) (ofv:Int→Int):Int:=if wayB a b p.f1=0 then 0 else if sideB a b p=side then ofv (wayB a b p.f1) else 0
def csum (l:List S47) (p:S47) (side:Int) (ofv:Int→Int):Nat→Int
 | 0=>0
 | i+1=>csum l p side ofv i+ctermB (rd_T47 l (i:Int)) (nxt l i) p side ofv
theorem isPt_bounds {x:S47} (h:isPt x=true) : -268435455≤x.f0∧x.f0≤268435455∧-268435455≤x.f1∧x.f1≤268435455:=by
 unfold isPt at h
 simp only [Bool.and_eq_true,decide_eq_true_eq] at h
 omega
theorem wayB_cases (a b:S47) (y:Int):wayB a b y=0∨wayB a b y=1∨wayB a b y = -1:=by unfold wayB;split <;> (try split) <;> simp
theorem sgnB_cases (n:Int):sgnB n=0∨sgnB n=1∨sgnB n = -1:=by unfold sgnB;split <;> (try split) <;> simp
theorem wrap64_idC {n:Int} (h : -9223372036854775808≤n) (h':n≤9223372036854775807):wrap64 n=n:=by unfold wrap64;omega
theorem mul_bound {x y:Int} (hx : -536870910≤x) (hx':x≤536870910) (hy : -536870910≤y) (hy':y≤536870910) : -288230374541099008≤x*y∧x*y≤288230374541099008:=by
 have h1:(536870910-x)*(536870910+y)≥0:=Int.mul_nonneg (by omega) (by omega)
 have h2:(536870910+x)*(536870910-y)≥0:=Int.mul_nonneg (by omega) (by omega)
 have h3:(536870910-x)*(536870910-y)≥0:=Int.mul_nonneg (by omega) (by omega)
 have h4:(536870910+x)*(536870910+y)≥0:=Int.mul_nonneg (by omega) (by omega)
 rw [Int.sub_mul,Int.mul_add,Int.mul_add] at h1
 rw [Int.add_mul,Int.mul_sub,Int.mul_sub] at h2
 rw [Int.sub_mul,Int.mul_sub,Int.mul_sub] at h3
 rw [Int.add_mul,Int.mul_add,Int.mul_add] at h4
 generalize x*y=z at *
 omega
theorem way_is (k:Nat) (a b:S47) (y:Int):wind_Edge_Way.f (k+1) a.f0 a.f1 b.f0 b.f1 y=some (wayB a b y):=by
 unfold wind_Edge_Way.f wayB
 simp only [wind_Edge_Way.j0,decide_eq_true_eq,Bool.false_eq_true,if_false]
 repeat' split
 all_goals first|rfl|(exfalso;omega)
theorem compare_is (x y:Int):cmp_Compare_int.f x y=some (sgnB (x-y)):=by
 unfold cmp_Compare_int.f cmp_isNaN_int.f sgnB
 simp only [Option.bind_some,bne_self_eq_false,Bool.false_eq_true,if_false]
 by_cases h:x<y
 ·rw [if_pos h,if_pos (by omega)]
 ·rw [if_neg h]
  by_cases h':x>y
  ·rw [if_pos h',if_neg (by omega),if_pos (by omega)]
  ·rw [if_neg h',if_neg (by omega),if_neg (by omega)]
theorem sign_is (a b p:S47) (ha:isPt a=true) (hb:isPt b=true) (hp:isPt p=true):wind_Sign.f a.f0 a.f1 b.f0 b.f1 p.f0 p.f1=some (sgnB (crossB a b p)):=by
 have ba:=isPt_bounds ha;have bb:=isPt_bounds hb;have bp:=isPt_bounds hp
 unfold wind_Sign.f
 have m1:=mul_bound (x:=b.f0-a.f0) (y:=p.f1-a.f1) (by omega) (by omega) (by omega) (by omega)
 have m2:=mul_bound (x:=b.f1-a.f1) (y:=p.f0-a.f0) (by omega) (by omega) (by omega) (by omega)
 rw [wrap64_idC (n:=b.f0-a.f0) (by omega) (by omega),wrap64_idC (n:=p.f1-a.f1) (by omega) (by omega),wrap64_idC (n:=b.f1-a.f1) (by omega) (by omega),wrap64_idC (n:=p.f0-a.f0) (by omega) (by omega),wrap64_idC (by omega) (by omega),wrap64_idC (by omega) (by omega),compare_is]
 rfl
theorem where_is (k:Nat) (a b p:S47) (ha:isPt a=true) (hb:isPt b=true) (hp:isPt p=true):wind_Edge_Where.f (k+1) a.f0 a.f1 b.f0 b.f1 p.f0 p.f1=some (sideB a b p):=by
 unfold wind_Edge_Where.f sideB
 rw [sign_is a b p ha hb hp,way_is]
 simp only [Option.bind_some]
 rcases sgnB_cases (crossB a b p) with h|h|h <;> rcases wayB_cases a b p.f1 with h'|h'|h' <;> rw [h,h',wrap64_idC (by decide) (by decide)]
theorem grown_setC {W W1:World} (hb:Below W.heap.size W W1) (n:Nat) (g:Nat) (j:Nat) (u:Value):W.grownBy ((W1.drewN n).setCell ⟨g,j,none⟩ u) (some g) :=
 ⟨hb.os,hb.tape,hb.output,by have:=hb.size;simpa [World.setCell] using this,fun k hk hne=>(Below.heap_setCell (W1.drewN n) ⟨g,j,none⟩ u k (fun e=>hne (by rw [e]))).trans (hb.block k hk)⟩
section
variable (g2:Nat) (ofv:Int→Int) (eg2 : ∀ args w,(callFunc g2 args).run Tryz.prog w = .ok (.enter g2 args) w)
 (hof : ∀ (W:World) (x:Int),Calls Tryz.prog g2 #[.int .i64 x] W fun e w'=>e = .returned (.int .i64 (ofv x))∧Drawn0 W w')
 (a b p:S47) (ha:isPt a=true) (hb:isPt b=true) (hp:isPt p=true) (side n:Int) (bp bs bn bf:Nat) (W:World)
 (h1:W.heap[bp]?=some (.cells #[.int .i64 p.f0,.int .i64 p.f1] 47 (0,0))) (h2:W.heap[bs]?=some (.cells #[.int .i64 side] 3 (0,0)))
 (h3:W.heap[bn]?=some (.cells #[.int .i64 n] 3 (0,0))) (h4:W.heap[bf]?=some (.cells #[.func (.func g2) #[] #[]] 63 (0,0)))
 (hn : -1000000000≤n+ctermB a b p side ofv) (hn':n+ctermB a b p side ofv≤1000000000)
include eg2 hof ha hb hp h1 h2 h3 h4 hn hn'
set_option maxHeartbeats 4000000 in
theorem count1_calls :
  Calls Tryz.prog 112 #[edgeV a b,.pointer (some ⟨bp,0,none⟩),.pointer (some ⟨bs,0,none⟩),.pointer (some ⟨bn,0,none⟩),.pointer (some ⟨bf,0,none⟩)] W fun e w' =>
   e = .returned (.tuple #[])∧W.grownBy w' (some bn)∧w'.heap[bn]?=some (.cells #[.int .i64 (n+ctermB a b p side ofv)] 3 (0,0)):=by
 have hu:=Tryz.underlying47
 have hu2:=Tryz.underlying62
 have hway:=fun V=>wind_Edge_Way.calls 1 a.f0 a.f1 b.f0 b.f1 p.f1 _ V (way_is 0 a b p.f1)
 have hwhere:=fun V=>wind_Edge_Where.calls 1 a.f0 a.f1 b.f0 b.f1 p.f0 p.f1 _ V (where_is 0 a b p ha hb hp)
 have HN:=aK hn
 have HN':=aK hn'
 have HC:Aside0 (ctermB a b p side ofv=if wayB a b p.f1=0 then 0 else if sideB a b p=side then ofv (wayB a b p.f1) else 0):=⟨rfl⟩
 generalize ctermB a b p side ofv=ct at *
 generalize wayB a b p.f1=v at *
 generalize sideB a b p=s at *
 clear hn hn' ha hb hp
 have HW:=aK hway
 have HS:=aK hwhere
 have HF:=aK hof
 clear hway hwhere hof
 have H1:=aK h1
 have H2:=aK h2
 have H3:=aK h3
 have H4:=aK h4
 have HB:=aK (below_alloc (Below.refl W.heap.size W) (.cells #[.int .i64 a.f0,.int .i64 a.f1,.int .i64 b.f0,.int .i64 b.f1] 62))
 have hp1:=blk_cell (blk_alloc h1 (.cells #[.int .i64 a.f0,.int .i64 a.f1,.int .i64 b.f0,.int .i64 b.f1] 62)) 1
 have HE:=aK (blk_new W (.cells #[.int .i64 a.f0,.int .i64 a.f1,.int .i64 b.f0,.int .i64 b.f1] 62))
 clear h1 h2 h3 h4
 unfold edgeV
 go_enter Tryz.func112,Tryz.ntmps112
 go_wp2_with fail
 refine (HW.out _).mono ?_
 rintro e W1 ⟨rfl,hb1⟩
 have HB1:=aK (below_step HB.out hb1)
 have e0:=blk_below HE.out hb1
 have b1:=blk_below H1.out HB1.out
 have b2:=blk_below H2.out HB1.out
 have b3:=blk_below H3.out HB1.out
 have b4:=blk_below H4.out HB1.out
 clear hb1 hp1
 have c0:=blk_cell e0 0
 have c1:=blk_cell e0 1
 have c2:=blk_cell e0 2
 have c3:=blk_cell e0 3
 have c4:=blk_cell b1 0
 have c5:=blk_cell b1 1
 have c6:=blk_cell b2 0
 have E0:=aK e0
 have B3:=aK b3
 have B4:=aK b4
 clear e0 b1 b2 b3 b4 HW HB HE H1 H2 H4
 simp at c0 c1 c2 c3 c4 c5 c6
 by_cases hv:v=0
 ·have hct:ct=0:=by have:=HC.out;rw [if_pos hv] at this;exact this
  subst hct
  have v1:(v == 0)=true:=beq_iff_eq.mpr hv
  have v2:(v != 0)=false:=bne_eq_false_iff_eq.mpr hv
  clear hv HC
  go_wp2
  refine start_ (n:=9) (S:=fun w'=>True) (ds:=[]) #[false,false,false,false,false,false,false,false,false] (by kernel_rfl) rfl rfl trivial (fun hHeld=>?_)
  refine pure_ (i:=0) (N:=some 11) (v:=?_) (a':=?_) #[true,false,false,false,false,false,false,false,false] rfl rfl (by kernel_rfl) (fun _ _ _ h=>h) (Or.inl ⟨by rfl,?_⟩) ?_ ?_
  rotate_left
  ·intro w'
   go_simp
   with_reducible rfl
  rotate_left
  ·simp only [Act.put,lS,i64_w,i32_w]
   rfl
  refine pure_ (i:=1) (N:=some 12) (v:=?_) (a':=?_) #[true,true,false,false,false,false,false,false,false] rfl rfl (by kernel_rfl) (fun _ _ _ h=>h) (Or.inl ⟨by rfl,?_⟩) ?_ ?_
  rotate_left
  ·intro w'
   go_simp
   with_reducible rfl
  rotate_left
  ·simp only [Act.put,lS,i64_w,i32_w]
   rfl
  refine pure_ (i:=2) (N:=some 13) (v:=?_) (a':=?_) #[true,true,true,false,false,false,false,false,false] rfl rfl (by kernel_rfl) (fun _ _ _ h=>h) (Or.inl ⟨by rfl,?_⟩) ?_ ?_
  rotate_left
  ·intro w'
   go_simp
   with_reducible rfl
  rotate_left
  ·simp only [Act.put,lS,i64_w,i32_w]
   rfl
  refine pure_ (i:=3) (N:=some 14) (v:=undef) (a':=?_) #[true,true,true,true,false,false,false,false,false] rfl rfl (by kernel_rfl) (fun _ _ _ h=>h) (Or.inr ⟨by rfl,rfl⟩) ?_ ?_
  rotate_left
  ·simp only [Act.put,lS,i64_w,i32_w]
   rfl
  refine pure_ (i:=4) (N:=some 15) (v:=undef) (a':=?_) #[true,true,true,true,true,false,false,false,false] rfl rfl (by kernel_rfl) (fun _ _ _ h=>h) (Or.inr ⟨by rfl,rfl⟩) ?_ ?_
  rotate_left
  ·simp only [Act.put,lS,i64_w,i32_w]
   rfl
  refine pure_ (i:=5) (N:=some 16) (v:=undef) (a':=?_) #[true,true,true,true,true,true,false,false,false] rfl rfl (by kernel_rfl) (fun _ _ _ h=>h) (Or.inr ⟨by rfl,rfl⟩) ?_ ?_
  rotate_left
  ·simp only [Act.put,lS,i64_w,i32_w]
   rfl
  refine pure_ (i:=6) (N:=some 17) (v:=undef) (a':=?_) #[true,true,true,true,true,true,true,false,false] rfl rfl (by kernel_rfl) (fun _ _ _ h=>h) (Or.inr ⟨by rfl,rfl⟩) ?_ ?_
  rotate_left
  ·simp only [Act.put,lS,i64_w,i32_w]
   rfl
  refine pure_ (i:=7) (N:=some 18) (v:=undef) (a':=?_) #[true,true,true,true,true,true,true,true,false] rfl rfl (by kernel_rfl) (fun _ _ _ h=>h) (Or.inr ⟨by rfl,rfl⟩) ?_ ?_
  rotate_left
  ·simp only [Act.put,lS,i64_w,i32_w]
   rfl
  refine pure_ (i:=8) (N:=some 19) (v:=?_) (a':=?_) #[true,true,true,true,true,true,true,true,true] rfl rfl (by kernel_rfl) (fun _ _ _ h=>h) (Or.inl ⟨by rfl,?_⟩) ?_ ?_
  rotate_left
  ·intro w'
   go_simp
   with_reducible rfl
  rotate_left
  ·simp only [Act.put,lS,i64_w,i32_w]
   rfl
  refine done_ (by kernel_rfl) ?_
  go_wp2
  go_end0
  exact ⟨rfl,grown_of_below (below_drew1 HB1.out) _,by rw [Int.add_zero];exact B3.out⟩
 ·have v1:(v == 0)=false:=beq_eq_false_iff_ne.mpr hv
  have v2:(v != 0)=true:=bne_iff_ne.mpr hv
  have hct:ct=if s=side then ofv v else 0:=by have:=HC.out;rw [if_neg hv] at this;exact this
  have HC2:=aK hct
  clear hct HC hv
  go_wp2
  refine start_ (n:=9) (S:=fun w'=>w'.cell? ⟨W.heap.size,0,none⟩=some (.int .i64 a.f0)∧w'.cell? ⟨W.heap.size,1,none⟩=some (.int .i64 a.f1)∧w'.cell? ⟨W.heap.size,2,none⟩=some (.int .i64 b.f0)∧w'.cell? ⟨W.heap.size,3,none⟩=some (.int .i64 b.f1)∧w'.cell? ⟨bp,0,none⟩=some (.int .i64 p.f0)∧w'.cell? ⟨bp,1,none⟩=some (.int .i64 p.f1)∧w'.cell? ⟨bs,0,none⟩=some (.int .i64 side)) (ds:=[]) #[false,false,false,false,false,false,false,false,false] (by kernel_rfl) rfl rfl ⟨c0,c1,c2,c3,c4,c5,c6⟩ (fun hHeld=>?_)
  refine pure_ (i:=0) (N:=some 11) (v:=?_) (a':=?_) #[true,false,false,false,false,false,false,false,false] rfl rfl (by kernel_rfl) (fun _ _ _ h=>h) (Or.inl ⟨by rfl,?_⟩) ?_ ?_
  rotate_left
  ·intro w'
   go_simp
   with_reducible rfl
  rotate_left
  ·simp only [Act.put,lS,i64_w,i32_w]
   rfl
  refine pure_ (i:=1) (N:=some 12) (v:=?_) (a':=?_) #[true,true,false,false,false,false,false,false,false] rfl rfl (by kernel_rfl) (fun _ _ _ h=>h) (Or.inl ⟨by rfl,?_⟩) ?_ ?_
  rotate_left
  ·intro w'
   go_simp
   with_reducible rfl
  rotate_left
  ·simp only [Act.put,lS,i64_w,i32_w]
   rfl
  refine pure_ (i:=2) (N:=some 13) (v:=?_) (a':=?_) #[true,true,true,false,false,false,false,false,false] rfl rfl (by kernel_rfl) (fun _ _ _ h=>h) (Or.inl ⟨by rfl,?_⟩) ?_ ?_
  rotate_left
  ·intro w'
   go_simp
   with_reducible rfl
  rotate_left
  ·simp only [Act.put,lS,i64_w,i32_w]
   rfl
  refine take_ (i:=3) (N:=some 14) (v:=?_) (a':=?_) #[true,true,true,true,false,false,false,false,false] rfl rfl (by kernel_rfl) (fun _ _ _ h=>h) (Or.inl ⟨by rfl,?_⟩) hHeld ?_ ?_
  rotate_left
  ·rintro w' ⟨s0,s1,s2,s3,s4,s5,s6⟩
   go_simp
   with_reducible rfl
  rotate_left
  ·simp only [Act.put,lS,i64_w,i32_w]
   rfl
  refine take_ (i:=4) (N:=some 15) (v:=?_) (a':=?_) #[true,true,true,true,true,false,false,false,false] rfl rfl (by kernel_rfl) (fun _ _ _ h=>h) (Or.inl ⟨by rfl,?_⟩) hHeld ?_ ?_
  rotate_left
  ·rintro w' ⟨s0,s1,s2,s3,s4,s5,s6⟩
   go_simp
   with_reducible rfl
  rotate_left
  ·simp only [Act.put,lS,i64_w,i32_w]
   rfl
  refine take_ (i:=6) (N:=some 17) (v:=?_) (a':=?_) #[true,true,true,true,true,false,true,false,false] rfl rfl (by kernel_rfl) (fun _ _ _ h=>h) (Or.inl ⟨by rfl,?_⟩) hHeld ?_ ?_
  rotate_left
  ·rintro w' ⟨s0,s1,s2,s3,s4,s5,s6⟩
   go_simp
   with_reducible rfl
  rotate_left
  ·simp only [Act.put,lS,i64_w,i32_w]
   rfl
  refine one_ (i:=5) (N:=some 16) #[true,true,true,true,true,true,true,false,false] rfl rfl (by kernel_rfl) (by decide) (fun K hK=>?_)
  refine goes_ Tryz.func97 (by kernel_rfl) rfl #[.agg #[.int .i64 a.f0,.int .i64 a.f1,.int .i64 b.f0,.int .i64 b.f1],.agg #[.int .i64 p.f0,.int .i64 p.f1]] (by rfl) rfl rfl (by simp only [List.map_toArray,List.map_cons,List.map_nil];rfl) ?_
  refine (HS.out _).mono ?_
  rintro e W3 ⟨rfl,hb3⟩
  have B3:=aK (blk_below (blk_drew B3.out) hb3)
  have B4:=aK (blk_below (blk_drew B4.out) hb3)
  have HB3:=aK (below_step (below_drew1 HB1.out) hb3)
  refine ⟨_,rfl,?_⟩
  refine hK.out _ _ ⟨(hb3.cell (World.block_lt_of_cell? _ _ hHeld.1)).trans hHeld.1,(hb3.cell (World.block_lt_of_cell? _ _ hHeld.2.1)).trans hHeld.2.1,(hb3.cell (World.block_lt_of_cell? _ _ hHeld.2.2.1)).trans hHeld.2.2.1,(hb3.cell (World.block_lt_of_cell? _ _ hHeld.2.2.2.1)).trans hHeld.2.2.2.1,(hb3.cell (World.block_lt_of_cell? _ _ hHeld.2.2.2.2.1)).trans hHeld.2.2.2.2.1,(hb3.cell (World.block_lt_of_cell? _ _ hHeld.2.2.2.2.2.1)).trans hHeld.2.2.2.2.2.1,(hb3.cell (World.block_lt_of_cell? _ _ hHeld.2.2.2.2.2.2)).trans hHeld.2.2.2.2.2.2⟩ (fun hHeld=>?_)
  clear hK K
  refine norm_ (a':=?_) ?_ ?_
  rotate_left
  ·show Act.put _ (some 16) _=_
   simp only [Act.put,lS,i64_w,i32_w]
   rfl
  refine pure_ (i:=7) (N:=some 18) (v:=?_) (a':=?_) #[true,true,true,true,true,true,true,true,false] rfl rfl (by kernel_rfl) (fun _ _ _ h=>h) (Or.inl ⟨by rfl,?_⟩) ?_ ?_
  rotate_left
  ·intro w'
   go_simp
   with_reducible rfl
  rotate_left
  ·simp only [Act.put,lS,i64_w,i32_w]
   rfl
  refine pure_ (i:=8) (N:=some 19) (v:=?_) (a':=?_) #[true,true,true,true,true,true,true,true,true] rfl rfl (by kernel_rfl) (fun _ _ _ h=>h) (Or.inl ⟨by rfl,?_⟩) ?_ ?_
  rotate_left
  ·intro w'
   go_simp
   with_reducible rfl
  rotate_left
  ·simp only [Act.put,lS,i64_w,i32_w]
   rfl
  refine done_ (by kernel_rfl) ?_
  by_cases hs:s=side
  ·have s1:(s == side)=true:=beq_iff_eq.mpr hs
   have hct:ct=ofv v:=by have:=HC2.out;rw [if_pos hs] at this;exact this
   subst hct
   have hw:wrap64 (n+ofv v)=n+ofv v:=wrap64_idC (by have:=HN.out;omega) (by have:=HN'.out;omega)
   have d0:=blk_cell B3.out 0
   have d1:=blk_cell B4.out 0
   have d2:=blk_frozen B3.out 0
   simp at d0 d1 d2
   clear hs HC2
   go_wp2
   refine start_ (n:=6) (S:=fun w'=>w'.cell? ⟨bn,0,none⟩=some (.int .i64 n)∧w'.cell? ⟨bf,0,none⟩=some (.func (.func g2) #[] #[])∧w'.frozen? ⟨bn,0,none⟩=false) (ds:=[5]) #[false,false,false,false,false,false] (by kernel_rfl) rfl rfl ⟨d0,d1,d2⟩ (fun hHeld=>?_)
   refine pure_ (i:=2) (N:=some 22) (v:=?_) (a':=?_) #[false,false,true,false,false,false] rfl rfl (by kernel_rfl) (fun _ _ _ h=>h) (Or.inl ⟨by rfl,?_⟩) ?_ ?_
   rotate_left
   ·intro w'
    go_simp
    with_reducible rfl
   rotate_left
   ·simp only [Act.put,lS,i64_w,i32_w]
    rfl
   refine take_ (i:=0) (N:=some 20) (v:=?_) (a':=?_) #[true,false,true,false,false,false] rfl rfl (by kernel_rfl) (fun _ _ _ h=>h) (Or.inl ⟨by rfl,?_⟩) hHeld ?_ ?_
   rotate_left
   ·rintro w' ⟨s0,s1,s2⟩
    go_simp
    with_reducible rfl
   rotate_left
   ·simp only [Act.put,lS,i64_w,i32_w]
    rfl
   refine take_ (i:=1) (N:=some 21) (v:=?_) (a':=?_) #[true,true,true,false,false,false] rfl rfl (by kernel_rfl) (fun _ _ _ h=>h) (Or.inl ⟨by rfl,?_⟩) hHeld ?_ ?_
   rotate_left
   ·rintro w' ⟨s0,s1,s2⟩
    go_simp
    with_reducible rfl
   rotate_left
   ·simp only [Act.put,lS,i64_w,i32_w]
    rfl
   refine one_ (i:=3) (N:=some 23) #[true,true,true,true,false,false] rfl rfl (by kernel_rfl) (by decide) (fun K hK=>?_)
   refine goesv_ #[] #[.int .i64 v] eg2 (by rfl) rfl rfl (by rfl) (by simp only [List.map_toArray,List.map_cons,List.map_nil];rfl) ?_
   refine (HF.out _ v).mono ?_
   rintro e W4 ⟨rfl,⟨nq,rfl⟩⟩
   refine ⟨_,rfl,?_⟩
   refine hK.out _ _ ⟨hHeld.1,hHeld.2.1,hHeld.2.2⟩ (fun hHeld=>?_)
   clear hK K
   refine norm_ (a':=?_) ?_ ?_
   rotate_left
   ·show Act.put _ (some 23) _=_
    simp only [Act.put,lS,i64_w,i32_w]
    rfl
   refine pure_ (i:=4) (N:=some 24) (v:=?_) (a':=?_) #[true,true,true,true,true,false] rfl rfl (by kernel_rfl) (fun _ _ _ h=>h) (Or.inl ⟨by rfl,?_⟩) ?_ ?_
   rotate_left
   ·intro w'
    go_simp
    with_reducible rfl
   rotate_left
   ·simp only [Act.put,lS,i64_w,i32_w]
    rfl
   refine last_ (i:=5) (N:=none) #[true,true,true,true,true,true] rfl rfl (by kernel_rfl) (by decide) (fun K hK=>?_)
   have f0:=hHeld.1
   have f2:=hHeld.2.2
   refine skip_ (w1:=?_) (by rfl) rfl ?_ ?_
   rotate_left
   ·go_simp
    rfl
   refine hK.out _ _ ?_
   clear hK K
   refine done_ (by kernel_rfl) ?_
   go_end0
   exact ⟨rfl,grown_setC HB3.out (1+nq) bn 0 _,one_setCell (w:=W3.drewN (1+nq)) B3.out⟩
  ·have s1:(s == side)=false:=beq_eq_false_iff_ne.mpr hs
   have hct:ct=0:=by have:=HC2.out;rw [if_neg hs] at this;exact this
   subst hct
   clear hs HC2
   go_wp2
   go_end0
   exact ⟨rfl,grown_of_below HB3.out _,by rw [Int.add_zero];exact B3.out⟩
end
theorem ctermB_abs (a b p:S47) (side:Int) (ofv:Int→Int) (hov : ∀ x,-1≤x→x≤1→-1≤ofv x∧ofv x≤1) : -1≤ctermB a b p side ofv∧ctermB a b p side ofv≤1:=by
 unfold ctermB
 split
 ·omega
 ·split
  ·rcases wayB_cases a b p.f1 with h|h|h <;> rw [h] <;> exact hov _ (by omega) (by omega)
  ·omega
theorem csum_abs (l:List S47) (p:S47) (side:Int) (ofv:Int→Int) (hov : ∀ x,-1≤x→x≤1→-1≤ofv x∧ofv x≤1) : ∀ i:Nat,-(i:Int)≤csum l p side ofv i∧csum l p side ofv i≤i
 | 0=>by simp [csum]
 | i+1=>by
  have h:=csum_abs l p side ofv hov i
  have h':=ctermB_abs (rd_T47 l (i:Int)) (nxt l i) p side ofv hov
  simp only [csum]
  omega
theorem rd_mem (l:List S47) (i:Nat) (h:i<l.length):rd_T47 l (i:Int)∈l:=by
 simp [rd_T47,List.getD_eq_getElem?_getD,List.getElem?_eq_getElem h]
theorem nxt_mem (l:List S47) (i:Nat) (h:i<l.length):nxt l i∈l:=rd_mem l _ (Nat.mod_lt _ (by omega))
def okPoly (l:List S47):Bool:=decide (1≤l.length) && (decide (l.length≤60000) && l.all isPt)
def countB (l:List S47) (p:S47) (side:Int) (ofv:Int→Int):Int×Int:=if okPoly l && isPt p then (csum l p side ofv l.length,0) else (0,2)
theorem valid_is (l:List S47) (hlen:l.length≤9223372036854775807):wind_valid.f l=some (okPoly l):=by
 unfold wind_valid.f flat_ArePoints.f okPoly
 rw [if_pos hlen]
 by_cases h1:(l.length:Int)≥1
 ·rw [if_pos h1,decide_eq_true (show 1≤l.length by omega)]
  by_cases h2:(l.length:Int)≤60000
  ·rw [if_pos h2,decide_eq_true (show l.length≤60000 by omega)];simp
  ·rw [if_neg h2,decide_eq_false (show ¬ l.length≤60000 by omega)];simp
 ·rw [if_neg h1,decide_eq_false (show ¬ 1≤l.length by omega)];simp
def CountI (w:World) (l0:List S47) (p:S47) (side:Int) (ofv:Int→Int) (g2 bp bs bf bn:Nat) (i:Nat) (W:World):Prop :=
 Below w.heap.size w W∧W.heap[bp]?=some (.cells #[.int .i64 p.f0,.int .i64 p.f1] 47 (0,0))∧W.heap[bs]?=some (.cells #[.int .i64 side] 3 (0,0)) ∧
 W.heap[bf]?=some (.cells #[.func (.func g2) #[] #[]] 63 (0,0))∧W.heap[bn]?=some (.cells #[.int .i64 (csum l0 p side ofv i)] 3 (0,0))
set_option maxHeartbeats 4000000 in
theorem count_calls (g2:Nat) (ofv:Int→Int) (eg2 : ∀ args w,(callFunc g2 args).run Tryz.prog w = .ok (.enter g2 args) w)
  (hof : ∀ (W:World) (x:Int),Calls Tryz.prog g2 #[.int .i64 x] W fun e w'=>e = .returned (.int .i64 (ofv x))∧Drawn0 W w') (hov : ∀ x,-1≤x→x≤1→-1≤ofv x∧ofv x≤1)
  (A0:Option Addr) (c0:Nat) (l0:List S47) (p:S47) (side:Int) (w:World) (hr0:Kd.C k47 w A0 l0.length l0) (hc0:l0.length≤c0) (hlen:l0.length≤9223372036854775807) :
  Calls Tryz.prog 91 #[.slice A0 l0.length c0,.agg #[.int .i64 p.f0,.int .i64 p.f1],.int .i64 side,.func (.func g2) #[] #[]] w fun e w' =>
   e = .returned (.tuple #[.int .i64 (countB l0 p side ofv).1,.int .i64 (countB l0 p side ofv).2])∧Below w.heap.size w w':=by
 have hu:=Tryz.underlying47
 have hvalid:=fun V (hr:Kd.C k47 V A0 l0.length l0)=>wind_valid.calls A0 c0 l0 (okPoly l0) V hr hc0 (valid_is l0 hlen)
 have hpt:=fun V=>flat_IsPoint.calls p.f0 p.f1 _ V (isPoint_is p)
 have HV:=aK hvalid
 have HPT:=aK hpt
 have HR:=aK hr0
 clear hvalid hpt hr0
 have hq1:=blk_alloc (blk_alloc (blk_new w (.cells #[.int .i64 p.f0,.int .i64 p.f1] 47)) (.cells #[.int .i64 side] 3)) (.cells #[.func (.func g2) #[] #[]] 63)
 have hq2:=blk_alloc (blk_new (w.alloc (.cells #[.int .i64 p.f0,.int .i64 p.f1] 47)) (.cells #[.int .i64 side] 3)) (.cells #[.func (.func g2) #[] #[]] 63)
 have hq3:=blk_new ((w.alloc (.cells #[.int .i64 p.f0,.int .i64 p.f1] 47)).alloc (.cells #[.int .i64 side] 3)) (.cells #[.func (.func g2) #[] #[]] 63)
 have hB:=below_alloc (below_alloc (below_alloc (Below.refl w.heap.size w) (.cells #[.int .i64 p.f0,.int .i64 p.f1] 47)) (.cells #[.int .i64 side] 3)) (.cells #[.func (.func g2) #[] #[]] 63)
 simp only [World.size_alloc] at hq2 hq3
 have Q1:=aK hq1
 have Q2:=aK hq2
 have Q3:=aK hq3
 have HB:=aK hB
 clear hq1 hq2 hq3 hB
 have HC:Aside0 (countB l0 p side ofv=if okPoly l0 && isPt p then (csum l0 p side ofv l0.length,0) else (0,2)):=⟨rfl⟩
 generalize countB l0 p side ofv=cb at *
 go_enter Tryz.func91,Tryz.ntmps91
 go_wp2_with fail
 refine (HV.out _ (Kd.C_below HR.out HB.out)).mono ?_
 rintro e W4 ⟨rfl,hb4⟩
 have P1:=aK (blk_below Q1.out hb4)
 have P2:=aK (blk_below Q2.out hb4)
 have P3:=aK (blk_below Q3.out hb4)
 have HB4:=aK (below_step HB.out hb4)
 clear hb4 Q1 Q2 Q3 HB HV
 cases hok:okPoly l0 with
 | false =>
  obtain rfl:cb=(0,2):=by have:=HC.out;rw [hok] at this;exact this
  clear HC hok
  go_wp2
  go_ret2
  exact ⟨rfl,HB4.out⟩
 | true =>
  have c0':=blk_cell P1.out 0
  have c1':=blk_cell P1.out 1
  simp at c0' c1'
  go_wp2_with fail
  refine (HPT.out _).mono ?_
  rintro e W5 ⟨rfl,hb5⟩
  have R1:=aK (blk_below P1.out hb5)
  have R2:=aK (blk_below P2.out hb5)
  have R3:=aK (blk_below P3.out hb5)
  have HB5:=aK (below_step HB4.out hb5)
  clear hb5 P1 P2 P3 HB4 HPT c0' c1'
  cases hp:isPt p with
  | false =>
   obtain rfl:cb=(0,2):=by have:=HC.out;rw [hok,hp] at this;exact this
   clear HC hok hp
   go_wp2
   go_ret2
   exact ⟨rfl,HB5.out⟩
  | true =>
   obtain rfl:cb=(csum l0 p side ofv l0.length,0):=by have:=HC.out;rw [hok,hp] at this;exact this
   have hal:l0.length≤60000∧∀ x∈l0,isPt x=true:=by
    unfold okPoly at hok
    simp only [Bool.and_eq_true,decide_eq_true_eq,List.all_eq_true] at hok
    exact ⟨hok.2.1,hok.2.2⟩
   have HL:=aK hal
   have HP:=aK hp
   clear HC hok hp hal
   have hE:=Edges_calls 112 #[.pointer (some ⟨w.heap.size,0,none⟩),.pointer (some ⟨w.heap.size+1,0,none⟩),.pointer (some ⟨W5.heap.size,0,none⟩),.pointer (some ⟨w.heap.size+1+1,0,none⟩)]
    (CountI w l0 p side ofv g2 w.heap.size (w.heap.size+1) (w.heap.size+1+1) W5.heap.size) (enters_own Tryz.func112 (by kernel_rfl) rfl) A0 c0 l0 w (W5.alloc (.cells #[.int .i64 0] 3))
    (fun i W hi ⟨k0,k1,k2,k3,k4⟩=>by
     have ca:=csum_abs l0 p side ofv hov i
     have cb:=ctermB_abs (rd_T47 l0 (i:Int)) (nxt l0 i) p side ofv hov
     have hl:=HL.out.1
     have n1:w.heap.size<W5.heap.size:=lt_of_block R1.out
     have n2:w.heap.size+1<W5.heap.size:=lt_of_block R2.out
     have n3:w.heap.size+1+1<W5.heap.size:=lt_of_block R3.out
     refine (count1_calls g2 ofv eg2 hof (rd_T47 l0 (i:Int)) (nxt l0 i) p (HL.out.2 _ (rd_mem l0 i hi)) (HL.out.2 _ (nxt_mem l0 i hi)) HP.out side (csum l0 p side ofv i) _ _ _ _ W k1 k2 k4 k3 (by omega) (by omega)).mono ?_
     rintro e w' ⟨rfl,hg,hn⟩
     exact ⟨rfl,k0.grown hg k0.size (fun k hk=>by injection hk with hk;omega),blk_grown k1 hg (by simp;omega),blk_grown k2 hg (by simp;omega),blk_grown k3 hg (by simp;omega),hn⟩)
    (fun i W h=>h.1) (fun i W o ⟨k0,k1,k2,k3,k4⟩=>⟨below_alloc k0 o,blk_alloc k1 o,blk_alloc k2 o,blk_alloc k3 o,blk_alloc k4 o⟩) (fun i W n ⟨k0,k1,k2,k3,k4⟩=>⟨pw_below_drewN k0 n,blk_drewN k1 n,blk_drewN k2 n,blk_drewN k3 n,blk_drewN k4 n⟩)
    ⟨below_alloc HB5.out _,blk_alloc R1.out _,blk_alloc R2.out _,blk_alloc R3.out _,blk_new W5 _⟩ HR.out (by have:=HL.out.1;omega)
   have HE:=aK hE
   clear hE
   go_wp2_with fail
   refine HE.out.mono ?_
   rintro e W6 ⟨rfl,k0,k1,k2,k3,k4⟩
   have K0:=aK k0
   have c6:=blk_cell k4 0
   simp at c6
   clear HE k0 k1 k2 k3 k4
   go_wp2
   go_ret2
   exact ⟨rfl,K0.out⟩
end Go.Proofs.YtckjlckhjcbddaaGreat.PG3
