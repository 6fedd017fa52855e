import Derived.Test.YtoemkemmiikhlaaGreatSym
import Derived.Test.YtoemkemmiikhlaaGreatLaid
namespace Go.Proofs.YtoemkemmiikhlaaGreat.Sym
open Go.Shelf Go.RowKit Go.Lib Go.Sort
set_option linter.unusedSectionVars false
set_option linter.unusedVariables false
structure SortsR (P:Program):Prop where
  mixed:P.follows .mixedOrders=true
  fsw:P.funcs[132]?=some Tryz.f132
  frt:P.funcs[125]?=some Tryz.f125
  fsm:P.funcs[113]?=some Tryz.f113
  fst:P.funcs[106]?=some Tryz.f106
  t3:P.underlying 3=some (TypeDesc.int IntKind.i64)
  a3 : ∀ w,(isAgg 3).run P w = .ok false w
  z3 : ∀ w,(Go.sizeOf 3).run P w = .ok 1 w
  v3 : ∀ w,(zeroValue 3).run P w = .ok (Value.int IntKind.i64 0) w
  t4:P.underlying 4=some (TypeDesc.bool)
  a4 : ∀ w,(isAgg 4).run P w = .ok false w
  z4 : ∀ w,(Go.sizeOf 4).run P w = .ok 1 w
  v4 : ∀ w,(zeroValue 4).run P w = .ok (Value.bool false) w
  t22:P.underlying 23=some (TypeDesc.slice 45)
  a22 : ∀ w,(isAgg 23).run P w = .ok false w
  z22 : ∀ w,(Go.sizeOf 23).run P w = .ok 1 w
  v22 : ∀ w,(zeroValue 23).run P w = .ok (Value.slice none 0 0) w
  t112:P.underlying 112=some (TypeDesc.int IntKind.u64)
  a112 : ∀ w,(isAgg 112).run P w = .ok false w
  z112 : ∀ w,(Go.sizeOf 112).run P w = .ok 1 w
  v112 : ∀ w,(zeroValue 112).run P w = .ok (Value.int IntKind.u64 0) w
  t66:P.underlying 84=some (TypeDesc.func #[45,45] #[3] false)
  a66 : ∀ w,(isAgg 84).run P w = .ok false w
  z66 : ∀ w,(Go.sizeOf 84).run P w = .ok 1 w
  v66 : ∀ w,(zeroValue 84).run P w = .ok (Value.nilFunc) w
  t0:P.underlying 0=some (TypeDesc.tuple #[])
theorem sortsR:SortsR Tryz.prog:=⟨by kernel_rfl,Tryz.func132,Tryz.func125,Tryz.func113,Tryz.func106,Tryz.underlying3,Tryz.isAgg3,Tryz.sizeOf3,fun w=>by kernel_rfl,Tryz.underlying4,Tryz.isAgg4,Tryz.sizeOf4,fun w=>by kernel_rfl,Tryz.underlying23,Tryz.isAgg23,Tryz.sizeOf23,fun w=>by kernel_rfl,Tryz.underlying112,Tryz.isAgg112,Tryz.sizeOf112,fun w=>by kernel_rfl,Tryz.underlying84,Tryz.isAgg84,Tryz.sizeOf84,fun w=>by kernel_rfl,by kernel_rfl⟩
set_option maxHeartbeats 8000000 in
set_option maxRecDepth 1000000 in
theorem swapRangeR {P : Program} {α : Type} [Inhabited α] (L : SortsR P) (k : Nat) (aE : ∀ w, (isAgg 45).run P w = .ok true w) (zE : ∀ w, (Go.sizeOf 45).run P w = .ok k w) (enc : α → List Value) (fv : Value) (blk off cap a b n : Nat) (d0 d : Array α) (w0 w : World)
    (R:RowK enc k w0 blk off d0) (hs:d0.size=d.size) (S:SWK enc k w0 blk off d w) (hab:a+n≤b) (hb:b+n≤d.size) (hsz:d.size<4611686018427387904) :
    Calls P 132 #[.slice (some ⟨blk,off,none⟩) d.size cap,.int .i64 a,.int .i64 b,.int .i64 n,fv] w fun e w'=>e = .returned (.tuple #[])∧SWK enc k w0 blk off (swR d a b n) w':=by
  have mixed:=L.mixed;have t0:=L.t0;have t3:=L.t3;have a3:=L.a3;have z3:=L.z3;have v3:=L.v3;have t4:=L.t4;have a4:=L.a4;have z4:=L.z4;have v4:=L.v4;have t22:=L.t22;have a22:=L.a22;have z22:=L.z22;have v22:=L.v22;have t66:=L.t66;have a66:=L.a66;have z66:=L.z66;have v66:=L.v66;have t112:=L.t112;have a112:=L.a112;have z112:=L.z112;have v112:=L.v112
  have S0:Aside (SWK enc k w0 blk off d w):=S
  clear S
  go_enter L.fsw,Tryz.ntmps132
  go_wp2
  go_loopg [10] n (fun kx s10 wr=>∃ i:Nat,s10 = .int .i64 i∧i≤n∧n-i≤kx∧Aside (SWK enc k w0 blk off (swR d a b i) wr))
  case atStart=>exact ⟨0,rfl,Nat.zero_le _,by omega,S0⟩
  case round =>
    clear S0
    obtain ⟨i,rfl,hin,hkx,S1⟩:=hrel
    by_cases hlt:i<n
    · have hltz:(i:Int)<(n:Int):=by omega
      obtain ⟨dk,hdk⟩ : ∃ dk,dk=swR d a b i:=⟨_,rfl⟩
      have hds:dk.size=d.size:=by rw [hdk,size_swR]
      rw [← hdk] at S1
      have HDK:=Aside0.mk hdk
      clear hdk
      go_wp2_with fail
      have ea1:((a:Int)+(i:Int)).toNat=a+i:=by omega
      have pa1:(0:Int)≤(a:Int)+(i:Int):=by omega
      have ba1:(a:Int)+(i:Int)<(d.size:Int):=by omega
      have ra1:IntKind.i64.wrap ((a:Int)+(i:Int))=(a:Int)+(i:Int):=by rw [IntKind.wrap_i64];omega
      have ec1:((b:Int)+(i:Int)).toNat=b+i:=by omega
      have pc1:(0:Int)≤(b:Int)+(i:Int):=by omega
      have bc1:(b:Int)+(i:Int)<(d.size:Int):=by omega
      have rc1:IntKind.i64.wrap ((b:Int)+(i:Int))=(b:Int)+(i:Int):=by rw [IntKind.wrap_i64];omega
      have S2:Aside (SWK enc k w0 blk off (swp dk (a+i) (b+i)) ((wr.drew.setCells blk (off+(a+i)*k) (enc dk[b+i]!)).setCells blk (off+(b+i)*k) (enc dk[a+i]!))):=S1.out.swapped R (a+i) (b+i) (by omega) (by omega)
      have l1a:=S1.out.ld1 R (by omega) P (a+i) (by omega)
      have l1b:=S1.out.ld1 R (by omega) P (b+i) (by omega)
      have s1a:=S1.out.st1 R (by omega) P (a+i) (by omega) dk[b+i]!
      have s1b:=S1.out.st2 R (by omega) P (a+i) (b+i) (by omega) (by omega) dk[b+i]! dk[a+i]!
      have n1a:(enc dk[a+i]!).length=k:=R.hk _
      have n1b:(enc dk[b+i]!).length=k:=R.hk _
      generalize enc dk[a+i]! = cI1 at S2 l1a s1b n1a
      generalize enc dk[b+i]! = cJ1 at S2 l1b s1a s1b n1b
      clear S1
      go_wp2_with fail
      go_big_region_o
      clear l1a l1b s1a s1b
      generalize (wr.drew.setCells blk (off+(a+i)*k) cJ1).setCells blk (off+(b+i)*k) cI1=w2 at S2 ⊢
      go_wp2
      go_roundg (n-(i+1))
      case measure=>omega
      case rel=>exact ⟨i+1,by go_num,by omega,Nat.le_refl _,by have:=HDK.out;subst this;exact S2⟩
    · obtain rfl:i=n:=by omega
      have hltz : ¬ (i:Int)<(i:Int):=by omega
      go_wp2
      go_end0
      exact ⟨rfl,S1.out⟩
set_option maxHeartbeats 8000000 in
set_option maxRecDepth 1000000 in
theorem rotateR {P : Program} {α : Type} [Inhabited α] (L : SortsR P) (k : Nat) (aE : ∀ w, (isAgg 45).run P w = .ok true w) (zE : ∀ w, (Go.sizeOf 45).run P w = .ok k w) (enc : α → List Value) (fv : Value) (blk off cap a m b : Nat) (d0 d : Array α) (w0 w : World)
    (R:RowK enc k w0 blk off d0) (hs:d0.size=d.size) (S:SWK enc k w0 blk off d w) (ham:a<m) (hmb:m<b) (hb:b≤d.size) (hsz:d.size<4611686018427387904) :
    Calls P 125 #[.slice (some ⟨blk,off,none⟩) d.size cap,.int .i64 a,.int .i64 m,.int .i64 b,fv] w fun e w'=>e = .returned (.tuple #[])∧∃ D,IsRot a m b d D∧SWK enc k w0 blk off D w':=by
  have mixed:=L.mixed;have t0:=L.t0;have t3:=L.t3;have a3:=L.a3;have z3:=L.z3;have v3:=L.v3;have t4:=L.t4;have a4:=L.a4;have z4:=L.z4;have v4:=L.v4;have t22:=L.t22;have a22:=L.a22;have z22:=L.z22;have v22:=L.v22;have t66:=L.t66;have a66:=L.a66;have z66:=L.z66;have v66:=L.v66;have t112:=L.t112;have a112:=L.a112;have z112:=L.z112;have v112:=L.v112;have efsw : ∀ args w,(callFunc 132 args).run P w = .ok (.enter 132 args) w:=enters_of L.fsw (by kernel_rfl) rfl
  have S0:Aside (SWK enc k w0 blk off d w):=S
  clear S
  go_enter L.frt,Tryz.ntmps125
  go_wp2
  go_loopg [10,11] (b-a) (fun kx s10 s11 wr=>∃ (i j:Nat) (dk:Array α),s10 = .int .i64 i∧s11 = .int .i64 j∧1≤i∧i≤m-a∧1≤j∧j≤b-m∧i+j≤kx∧dk.size=d.size∧Aside (SWK enc k w0 blk off dk wr)∧Hid (∀ D,IsRot (m-i) m (m+j) dk D→IsRot a m b d D))
  case atStart=>exact ⟨m-a,b-m,d,by go_num,by go_num,by omega,by omega,by omega,by omega,by omega,rfl,S0,(show Hid _ from fun D h=>by rw [show m-(m-a)=a by omega,show m+(b-m)=b by omega] at h;exact h)⟩
  case round =>
    clear S0
    obtain ⟨i,j,dk,rfl,rfl,hi1,hia,hj1,hjb,hkx,hds,S1,HR⟩:=hrel
    by_cases hne:i=j
    · subst hne
      have hnez:((i:Int) != (i:Int))=false:=bne_self_eq_false _
      have e1:((m-i:Nat):Int)=(m:Int)-(i:Int):=by omega
      have r1:IntKind.i64.wrap ((m:Int)-(i:Int))=(m:Int)-(i:Int):=by rw [IntKind.wrap_i64];omega
      have hc:=swapRangeR L k aE zE enc fv blk off cap (m-i) m i d0 dk w0 wr R (by omega) S1.out (by omega) (by omega) (by omega)
      rw [hds,e1] at hc
      have HF:Hid (IsRot a m b d (swR dk (m-i) m i)):=HR.out _ (by
        have:=rot_eq (a:=m-i) (i:=i) (d:=dk) (by omega)
        rw [show m-i+i=m by omega] at this
        exact this)
      clear HR
      go_wp2_with (go_at_fn 132;refine hc.mono ?_;rintro e w1 ⟨rfl,S2⟩)
      go_end0
      exact ⟨rfl,_,HF.out,S2⟩
    · have hnez:((i:Int) != (j:Int))=true:=bne_iff_ne.mpr (by omega)
      have hnez' : ¬ (i:Int)=(j:Int):=by omega
      by_cases hgt:j<i
      · have hgtz:(j:Int)<(i:Int):=by omega
        have e1:((m-i:Nat):Int)=(m:Int)-(i:Int):=by omega
        have r1:IntKind.i64.wrap ((m:Int)-(i:Int))=(m:Int)-(i:Int):=by rw [IntKind.wrap_i64];omega
        have hc:=swapRangeR L k aE zE enc fv blk off cap (m-i) m j d0 dk w0 wr R (by omega) S1.out (by omega) (by omega) (by omega)
        rw [hds,e1] at hc
        have HF:Hid (∀ D,IsRot (m-(i-j)) m (m+j) (swR dk (m-i) m j) D→IsRot a m b d D):=fun D h=>HR.out D (by
          have:=rot_gt (a:=m-i) (i:=i) (j:=j) (d:=dk) (D:=D) hgt (by omega)
          rw [show m-i+i=m by omega,show m-i+j=m-(i-j) by omega] at this
          exact this h)
        clear HR
        go_wp2_with (go_at_fn 132;refine hc.mono ?_;rintro e w1 ⟨rfl,S2⟩)
        have S2:Aside _:=S2
        go_roundg (i-j+j)
        case measure=>omega
        case rel=>exact ⟨i-j,j,_,by go_num,rfl,by omega,by omega,by omega,by omega,Nat.le_refl _,by rw [size_swR];exact hds,S2,HF⟩
      · have hgtz : ¬ (j:Int)<(i:Int):=by omega
        have e1:((m-i:Nat):Int)=(m:Int)-(i:Int):=by omega
        have r1:IntKind.i64.wrap ((m:Int)-(i:Int))=(m:Int)-(i:Int):=by rw [IntKind.wrap_i64];omega
        have e2:((m+j-i:Nat):Int)=(m:Int)+(j:Int)-(i:Int):=by omega
        have r2:IntKind.i64.wrap ((m:Int)+(j:Int)-(i:Int))=(m:Int)+(j:Int)-(i:Int):=by rw [IntKind.wrap_i64];omega
        have hc:=swapRangeR L k aE zE enc fv blk off cap (m-i) (m+j-i) i d0 dk w0 wr R (by omega) S1.out (by omega) (by omega) (by omega)
        rw [hds,e1,e2] at hc
        have HF:Hid (∀ D,IsRot (m-i) m (m+(j-i)) (swR dk (m-i) (m+j-i) i) D→IsRot a m b d D):=fun D h=>HR.out D (by
          have:=rot_lt (a:=m-i) (i:=i) (j:=j) (d:=dk) (D:=D) (by omega) (by omega)
          rw [show m-i+i=m by omega,show m-i+j=m+(j-i) by omega] at this
          rw [show m+j-i=m+(j-i) by omega] at h
          exact this h)
        clear HR
        go_wp2_with (go_at_fn 132;refine hc.mono ?_;rintro e w1 ⟨rfl,S2⟩)
        have S2:Aside _:=S2
        go_roundg (i+(j-i))
        case measure=>omega
        case rel=>exact ⟨i,j-i,_,rfl,by go_num,by omega,by omega,by omega,by omega,Nat.le_refl _,by rw [size_swR];exact hds,S2,HF⟩
set_option maxHeartbeats 40000000 in
set_option maxRecDepth 1000000 in
theorem symMergeAR {P : Program} {α : Type} [Inhabited α] (L : SortsR P) (k : Nat) (aE : ∀ w, (isAgg 45).run P w = .ok true w) (zE : ∀ w, (Go.sizeOf 45).run P w = .ok k w) (enc : α → List Value) (cf : α → α → Int) (hO : SWO (ltOf cf)) (g : Nat) (cb : Array Value) (blk off cap : Nat) (d0 : Array α) (w0 : World)
    (eg : ∀ args w,(callFunc g args).run P w = .ok (.enter g args) w) (hcmp:CmpLays P g cb enc k cf blk off d0.size w0) (R:RowK enc k w0 blk off d0)
    (a m b:Nat) (d:Array α) (w:World) (hs:d0.size=d.size) (S:SWK enc k w0 blk off d w) (ham:a<m) (hmb:m<b) (hb:b≤d.size) (hsz:d.size<4611686018427387904) (s1:SortedIn (ltOf cf) a m d) (s2:SortedIn (ltOf cf) m b d) (h1:m=a+1) :
    Calls P 113 #[.slice (some ⟨blk,off,none⟩) d.size cap,.int .i64 a,.int .i64 m,.int .i64 b,.func (.func g) #[] cb] w fun e w'=>e = .returned (.tuple #[])∧∃ d',PermIn a b d d'∧SortedIn (ltOf cf) a b d'∧SWK enc k w0 blk off d' w':=by
  have mixed:=L.mixed;have t0:=L.t0;have t3:=L.t3;have a3:=L.a3;have z3:=L.z3;have v3:=L.v3;have t4:=L.t4;have a4:=L.a4;have z4:=L.z4;have v4:=L.v4;have t22:=L.t22;have a22:=L.a22;have z22:=L.z22;have v22:=L.v22;have t66:=L.t66;have a66:=L.a66;have z66:=L.z66;have v66:=L.v66;have t112:=L.t112;have a112:=L.a112;have z112:=L.z112;have v112:=L.v112;have efrt : ∀ args w,(callFunc 125 args).run P w = .ok (.enter 125 args) w:=enters_of L.frt (by kernel_rfl) rfl;have efsm : ∀ args w,(callFunc 113 args).run P w = .ok (.enter 113 args) w:=enters_of L.fsm (by kernel_rfl) rfl
  have HC:Aside _:=hcmp
  clear hcmp
  have S0:Aside (SWK enc k w0 blk off d w):=S
  have Z1:Hid (SortedIn (ltOf cf) a m d):=s1
  have Z2:Hid (SortedIn (ltOf cf) m b d):=s2
  clear S s1 s2
  go_enter L.fsm,Tryz.ntmps113
  · have hz:(m:Int)-(a:Int)=1:=by omega
    have hzb:((m:Int)-(a:Int) == 1)=true:=beq_iff_eq.mpr hz
    have Z2:Hid (SortedIn (ltOf cf) (a+1) b d):=by rw [← h1];exact Z2.out
    have H1:Hid (m=a+1):=h1
    clear h1
    go_wp2
    go_loopg [10,11] b (fun kx s10 s11 wr=>∃ i j:Nat,s10 = .int .i64 i∧s11 = .int .i64 j∧a+1≤i∧i≤j∧j≤b∧j-i≤kx∧Aside (SWK enc k w0 blk off d wr)∧Hid ((i=a+1∨ltOf cf d[i-1]! d[a]! = true)∧(j=b∨ltOf cf d[j]! d[a]! = false)))
    case atStart=>exact ⟨m,b,rfl,rfl,by omega,by omega,Nat.le_refl _,by omega,S0,(show Hid _ from ⟨.inl H1.out,.inl rfl⟩)⟩
    case round =>
      clear S0
      obtain ⟨i,j,rfl,rfl,hai,hij,hjb,hkx,S1,I⟩:=hrel
      by_cases hlt:i<j
      · have hltz:(i:Int)<(j:Int):=by omega
        cases hL:ltOf cf d[(i+j) / 2]! d[a]! with
        | true =>
          have ea5:(((i:Int)+(j:Int)) / 2).toNat=(i+j) / 2:=by omega
          have pa5:(0:Int)≤((i:Int)+(j:Int)) / 2:=by omega
          have ba5:((i:Int)+(j:Int)) / 2<(d.size:Int):=by omega
          have ra5:IntKind.i64.wrap (((i:Int)+(j:Int)) / 2)=((i:Int)+(j:Int)) / 2:=by rw [IntKind.wrap_i64];omega
          have ec5:((a:Int)).toNat=a:=by omega
          have pc5:(0:Int)≤(a:Int):=by omega
          have bc5:(a:Int)<(d.size:Int):=by omega
          have rc5:IntKind.i64.wrap ((a:Int))=(a:Int):=by rw [IntKind.wrap_i64];omega
          obtain ⟨x5,hx5⟩ : ∃ x,x=d[(i+j) / 2]!:=⟨_,rfl⟩
          obtain ⟨y5,hy5⟩ : ∃ x,x=d[a]!:=⟨_,rfl⟩
          have l5a:=S1.out.ld R (by omega) P ((i+j) / 2) (by omega)
          have l5b:=S1.out.ld R (by omega) P (a) (by omega)
          rw [← hx5] at l5a
          rw [← hy5] at l5b
          have hc5:=S1.out.cmp HC.out (by omega) x5 y5
          have hv5:cf x5 y5<0:=by rw [hx5,hy5];exact of_decide_eq_true hL
          have hd5:decide (cf x5 y5<0)=true:=decide_eq_true hv5
          clear hx5 hy5
          go_wp2_with fail
          go_quiet_grown (first|(go_at_fn g;refine Calls.grown_of (hc5 _ _)))
          have S2:Aside (SWK enc k w0 blk off d (grow (wr.drewN nq) osq)):=S1.out.grown nq osq
          clear l5a l5b hc5 S1
          generalize grow (wr.drewN nq) osq=w2 at S2 ⊢
          clear nq osq
          go_wp2
          go_roundg (j-((i+j) / 2+1))
          case measure=>omega
          case rel=>exact ⟨(i+j) / 2+1,j,by rw [show ((i:Int)+(j:Int)) / 2+1=(((i+j) / 2+1:Nat):Int) by omega],rfl,by omega,by omega,hjb,Nat.le_refl _,S2,(show Hid _ from ⟨.inr (by rw [Nat.add_sub_cancel];exact hL),I.out.2⟩)⟩
        | false =>
          have ea5:(((i:Int)+(j:Int)) / 2).toNat=(i+j) / 2:=by omega
          have pa5:(0:Int)≤((i:Int)+(j:Int)) / 2:=by omega
          have ba5:((i:Int)+(j:Int)) / 2<(d.size:Int):=by omega
          have ra5:IntKind.i64.wrap (((i:Int)+(j:Int)) / 2)=((i:Int)+(j:Int)) / 2:=by rw [IntKind.wrap_i64];omega
          have ec5:((a:Int)).toNat=a:=by omega
          have pc5:(0:Int)≤(a:Int):=by omega
          have bc5:(a:Int)<(d.size:Int):=by omega
          have rc5:IntKind.i64.wrap ((a:Int))=(a:Int):=by rw [IntKind.wrap_i64];omega
          obtain ⟨x5,hx5⟩ : ∃ x,x=d[(i+j) / 2]!:=⟨_,rfl⟩
          obtain ⟨y5,hy5⟩ : ∃ x,x=d[a]!:=⟨_,rfl⟩
          have l5a:=S1.out.ld R (by omega) P ((i+j) / 2) (by omega)
          have l5b:=S1.out.ld R (by omega) P (a) (by omega)
          rw [← hx5] at l5a
          rw [← hy5] at l5b
          have hc5:=S1.out.cmp HC.out (by omega) x5 y5
          have hv5 : ¬ cf x5 y5<0:=by rw [hx5,hy5];exact of_decide_eq_false hL
          have hd5:decide (cf x5 y5<0)=false:=decide_eq_false hv5
          clear hx5 hy5
          go_wp2_with fail
          go_quiet_grown (first|(go_at_fn g;refine Calls.grown_of (hc5 _ _)))
          have S2:Aside (SWK enc k w0 blk off d (grow (wr.drewN nq) osq)):=S1.out.grown nq osq
          clear l5a l5b hc5 S1
          generalize grow (wr.drewN nq) osq=w2 at S2 ⊢
          clear nq osq
          go_wp2
          go_roundg ((i+j) / 2-i)
          case measure=>omega
          case rel=>exact ⟨i,(i+j) / 2,rfl,by rw [show ((i:Int)+(j:Int)) / 2=(((i+j) / 2:Nat):Int) by omega],hai,by omega,by omega,Nat.le_refl _,S2,(show Hid _ from ⟨I.out.1,.inr hL⟩)⟩
      · obtain rfl:i=j:=by omega
        have hltz : ¬ (i:Int)<(i:Int):=by omega
        clear hlt hkx hij
        go_wp2
        go_loopg [13] i (fun kx s13 wr=>∃ t kk:Nat,s13 = .int .i64 kk∧Hid (kk=a+t)∧kk+1≤i∧i-kk≤kx∧Aside (SWK enc k w0 blk off (shU d a t) wr))
        case atStart=>exact ⟨0,a,rfl,rfl,by omega,by omega,S1⟩
        case round =>
          clear S1
          obtain ⟨t,kk,rfl,HK,hki,hkx,S1⟩:=hrel
          obtain ⟨dk,hdk⟩ : ∃ dk,dk=shU d a t:=⟨_,rfl⟩
          have hrt:=shU_rot d a t (by have:=HK.out;omega)
          rw [← hdk] at S1 hrt
          have hds:dk.size=d.size:=hrt.1.1
          have HD:Hid (dk=shU d a t):=hdk
          have HR:Hid _:=hrt
          clear hdk hrt
          have ri:IntKind.i64.wrap ((i:Int)-1)=(i:Int)-1:=by rw [IntKind.wrap_i64];omega
          by_cases hlt:kk<i-1
          · have hltz:(kk:Int)<(i:Int)-1:=by omega
            go_wp2_with fail
            have ea6:((kk:Int)).toNat=kk:=by omega
            have pa6:(0:Int)≤(kk:Int):=by omega
            have ba6:(kk:Int)<(d.size:Int):=by omega
            have ra6:IntKind.i64.wrap ((kk:Int))=(kk:Int):=by rw [IntKind.wrap_i64];omega
            have ec6:((kk:Int)+1).toNat=kk+1:=by omega
            have pc6:(0:Int)≤(kk:Int)+1:=by omega
            have bc6:(kk:Int)+1<(d.size:Int):=by omega
            have rc6:IntKind.i64.wrap ((kk:Int)+1)=(kk:Int)+1:=by rw [IntKind.wrap_i64];omega
            have S2:Aside (SWK enc k w0 blk off (swp dk (kk) (kk+1)) ((wr.drew.setCells blk (off+(kk)*k) (enc dk[kk+1]!)).setCells blk (off+(kk+1)*k) (enc dk[kk]!))):=S1.out.swapped R (kk) (kk+1) (by omega) (by omega)
            have l6a:=S1.out.ld1 R (by omega) P (kk) (by omega)
            have l6b:=S1.out.ld1 R (by omega) P (kk+1) (by omega)
            have s6a:=S1.out.st1 R (by omega) P (kk) (by omega) dk[kk+1]!
            have s6b:=S1.out.st2 R (by omega) P (kk) (kk+1) (by omega) (by omega) dk[kk+1]! dk[kk]!
            have n6a:(enc dk[kk]!).length=k:=R.hk _
            have n6b:(enc dk[kk+1]!).length=k:=R.hk _
            generalize enc dk[kk]! = cI6 at S2 l6a s6b n6a
            generalize enc dk[kk+1]! = cJ6 at S2 l6b s6a s6b n6b
            clear S1
            go_wp2_with fail
            go_big_region_o
            clear l6a l6b s6a s6b
            generalize (wr.drew.setCells blk (off+(kk)*k) cJ6).setCells blk (off+(kk+1)*k) cI6=w2 at S2 ⊢
            have HK2:Hid (kk+1=a+(t+1)):=by have h:=HK.out;show kk+1=_;omega
            have S3:Aside (SWK enc k w0 blk off (shU d a (t+1)) w2):=by
              have h:=HK.out
              have h':=HD.out
              subst h h'
              exact S2
            clear S2
            go_wp2
            go_roundg (i-(kk+1))
            case measure=>omega
            case rel=>exact ⟨t+1,kk+1,by go_num,HK2,by omega,Nat.le_refl _,S3⟩
          · have hltz : ¬ (kk:Int)<(i:Int)-1:=by omega
            have HF:Hid (PermIn a b d dk∧SortedIn (ltOf cf) a b dk):=by
              have hk:=HK.out
              have hr:=HR.out
              have e:a+1+t=i:=by omega
              rw [e] at hr
              exact ⟨permIn_mono _ _ a i a b (Nat.le_refl _) hjb hb hr.1,merge_one hO Z2.out hai hjb I.out.1 I.out.2 hr⟩
            go_wp2
            (try simp only [Exit.inBlock,Exit.then]);refine bodyPost_ret (results_none rfl _ _ _) rfl ?_
            exact ⟨rfl,dk,HF.out.1,HF.out.2,S1.out⟩
set_option maxHeartbeats 40000000 in
set_option maxRecDepth 1000000 in
theorem symMergeBR {P : Program} {α : Type} [Inhabited α] (L : SortsR P) (k : Nat) (aE : ∀ w, (isAgg 45).run P w = .ok true w) (zE : ∀ w, (Go.sizeOf 45).run P w = .ok k w) (enc : α → List Value) (cf : α → α → Int) (hO : SWO (ltOf cf)) (g : Nat) (cb : Array Value) (blk off cap : Nat) (d0 : Array α) (w0 : World)
    (eg : ∀ args w,(callFunc g args).run P w = .ok (.enter g args) w) (hcmp:CmpLays P g cb enc k cf blk off d0.size w0) (R:RowK enc k w0 blk off d0)
    (a m b:Nat) (d:Array α) (w:World) (hs:d0.size=d.size) (S:SWK enc k w0 blk off d w) (ham:a<m) (hmb:m<b) (hb:b≤d.size) (hsz:d.size<4611686018427387904) (s1:SortedIn (ltOf cf) a m d) (s2:SortedIn (ltOf cf) m b d) (h1 : ¬ m=a+1) (h2:b=m+1) :
    Calls P 113 #[.slice (some ⟨blk,off,none⟩) d.size cap,.int .i64 a,.int .i64 m,.int .i64 b,.func (.func g) #[] cb] w fun e w'=>e = .returned (.tuple #[])∧∃ d',PermIn a b d d'∧SortedIn (ltOf cf) a b d'∧SWK enc k w0 blk off d' w':=by
  have mixed:=L.mixed;have t0:=L.t0;have t3:=L.t3;have a3:=L.a3;have z3:=L.z3;have v3:=L.v3;have t4:=L.t4;have a4:=L.a4;have z4:=L.z4;have v4:=L.v4;have t22:=L.t22;have a22:=L.a22;have z22:=L.z22;have v22:=L.v22;have t66:=L.t66;have a66:=L.a66;have z66:=L.z66;have v66:=L.v66;have t112:=L.t112;have a112:=L.a112;have z112:=L.z112;have v112:=L.v112;have efrt : ∀ args w,(callFunc 125 args).run P w = .ok (.enter 125 args) w:=enters_of L.frt (by kernel_rfl) rfl;have efsm : ∀ args w,(callFunc 113 args).run P w = .ok (.enter 113 args) w:=enters_of L.fsm (by kernel_rfl) rfl
  have HC:Aside _:=hcmp
  clear hcmp
  have S0:Aside (SWK enc k w0 blk off d w):=S
  have Z1:Hid (SortedIn (ltOf cf) a m d):=s1
  have Z2:Hid (SortedIn (ltOf cf) m b d):=s2
  clear S s1 s2
  go_enter L.fsm,Tryz.ntmps113
  · have hz : ¬ (m:Int)-(a:Int)=1:=by omega
    have hzb:((m:Int)-(a:Int) == 1)=false:=beq_eq_false_iff_ne.mpr hz
    · have hy:(b:Int)-(m:Int)=1:=by omega
      have hyb:((b:Int)-(m:Int) == 1)=true:=beq_iff_eq.mpr hy
      have HBM:Hid (b=m+1):=h2
      clear h2
      go_wp2
      go_loopg [14,15] m (fun kx s14 s15 wr=>∃ i j:Nat,s14 = .int .i64 i∧s15 = .int .i64 j∧a≤i∧i≤j∧j≤m∧j-i≤kx∧Aside (SWK enc k w0 blk off d wr)∧Hid ((i=a∨ltOf cf d[m]! d[i-1]! = false)∧(j=m∨ltOf cf d[m]! d[j]! = true)))
      case atStart=>exact ⟨a,m,rfl,rfl,Nat.le_refl _,by omega,Nat.le_refl _,by omega,S0,(show Hid _ from ⟨.inl rfl,.inl rfl⟩)⟩
      case round =>
        clear S0
        obtain ⟨i,j,rfl,rfl,hai,hij,hjb,hkx,S1,I⟩:=hrel
        by_cases hlt:i<j
        · have hltz:(i:Int)<(j:Int):=by omega
          cases hL:ltOf cf d[m]! d[(i+j) / 2]! with
          | false =>
            have ea7:((m:Int)).toNat=m:=by omega
            have pa7:(0:Int)≤(m:Int):=by omega
            have ba7:(m:Int)<(d.size:Int):=by omega
            have ra7:IntKind.i64.wrap ((m:Int))=(m:Int):=by rw [IntKind.wrap_i64];omega
            have ec7:(((i:Int)+(j:Int)) / 2).toNat=(i+j) / 2:=by omega
            have pc7:(0:Int)≤((i:Int)+(j:Int)) / 2:=by omega
            have bc7:((i:Int)+(j:Int)) / 2<(d.size:Int):=by omega
            have rc7:IntKind.i64.wrap (((i:Int)+(j:Int)) / 2)=((i:Int)+(j:Int)) / 2:=by rw [IntKind.wrap_i64];omega
            obtain ⟨x7,hx7⟩ : ∃ x,x=d[m]!:=⟨_,rfl⟩
            obtain ⟨y7,hy7⟩ : ∃ x,x=d[(i+j) / 2]!:=⟨_,rfl⟩
            have l7a:=S1.out.ld R (by omega) P (m) (by omega)
            have l7b:=S1.out.ld R (by omega) P ((i+j) / 2) (by omega)
            rw [← hx7] at l7a
            rw [← hy7] at l7b
            have hc7:=S1.out.cmp HC.out (by omega) x7 y7
            have hv7 : ¬ cf x7 y7<0:=by rw [hx7,hy7];exact of_decide_eq_false hL
            have hd7:decide (cf x7 y7<0)=false:=decide_eq_false hv7
            clear hx7 hy7
            go_wp2_with fail
            go_quiet_grown (first|(go_at_fn g;refine Calls.grown_of (hc7 _ _)))
            have S2:Aside (SWK enc k w0 blk off d (grow (wr.drewN nq) osq)):=S1.out.grown nq osq
            clear l7a l7b hc7 S1
            generalize grow (wr.drewN nq) osq=w2 at S2 ⊢
            clear nq osq
            go_wp2
            go_roundg (j-((i+j) / 2+1))
            case measure=>omega
            case rel=>exact ⟨(i+j) / 2+1,j,by rw [show ((i:Int)+(j:Int)) / 2+1=(((i+j) / 2+1:Nat):Int) by omega],rfl,by omega,by omega,hjb,Nat.le_refl _,S2,(show Hid _ from ⟨.inr (by rw [Nat.add_sub_cancel];exact hL),I.out.2⟩)⟩
          | true =>
            have ea7:((m:Int)).toNat=m:=by omega
            have pa7:(0:Int)≤(m:Int):=by omega
            have ba7:(m:Int)<(d.size:Int):=by omega
            have ra7:IntKind.i64.wrap ((m:Int))=(m:Int):=by rw [IntKind.wrap_i64];omega
            have ec7:(((i:Int)+(j:Int)) / 2).toNat=(i+j) / 2:=by omega
            have pc7:(0:Int)≤((i:Int)+(j:Int)) / 2:=by omega
            have bc7:((i:Int)+(j:Int)) / 2<(d.size:Int):=by omega
            have rc7:IntKind.i64.wrap (((i:Int)+(j:Int)) / 2)=((i:Int)+(j:Int)) / 2:=by rw [IntKind.wrap_i64];omega
            obtain ⟨x7,hx7⟩ : ∃ x,x=d[m]!:=⟨_,rfl⟩
            obtain ⟨y7,hy7⟩ : ∃ x,x=d[(i+j) / 2]!:=⟨_,rfl⟩
            have l7a:=S1.out.ld R (by omega) P (m) (by omega)
            have l7b:=S1.out.ld R (by omega) P ((i+j) / 2) (by omega)
            rw [← hx7] at l7a
            rw [← hy7] at l7b
            have hc7:=S1.out.cmp HC.out (by omega) x7 y7
            have hv7:cf x7 y7<0:=by rw [hx7,hy7];exact of_decide_eq_true hL
            have hd7:decide (cf x7 y7<0)=true:=decide_eq_true hv7
            clear hx7 hy7
            go_wp2_with fail
            go_quiet_grown (first|(go_at_fn g;refine Calls.grown_of (hc7 _ _)))
            have S2:Aside (SWK enc k w0 blk off d (grow (wr.drewN nq) osq)):=S1.out.grown nq osq
            clear l7a l7b hc7 S1
            generalize grow (wr.drewN nq) osq=w2 at S2 ⊢
            clear nq osq
            go_wp2
            go_roundg ((i+j) / 2-i)
            case measure=>omega
            case rel=>exact ⟨i,(i+j) / 2,rfl,by rw [show ((i:Int)+(j:Int)) / 2=(((i+j) / 2:Nat):Int) by omega],hai,by omega,by omega,Nat.le_refl _,S2,(show Hid _ from ⟨I.out.1,.inr hL⟩)⟩
        · obtain rfl:i=j:=by omega
          have hltz : ¬ (i:Int)<(i:Int):=by omega
          clear hlt hkx hij
          go_wp2
          go_loopg [17] m (fun kx s17 wr=>∃ t kk:Nat,s17 = .int .i64 kk∧Hid (kk+t=m)∧i≤kk∧kk≤m∧kk-i≤kx∧Aside (SWK enc k w0 blk off (shD d m t) wr))
          case atStart=>exact ⟨0,m,rfl,rfl,by omega,Nat.le_refl _,by omega,S1⟩
          case round =>
            clear S1
            obtain ⟨t,kk,rfl,HK,hki,hkm,hkx,S1⟩:=hrel
            obtain ⟨dk,hdk⟩ : ∃ dk,dk=shD d m t:=⟨_,rfl⟩
            have hrt:=shD_rot d m (by omega) t (by have:=HK.out;omega)
            rw [← hdk] at S1 hrt
            have hds:dk.size=d.size:=hrt.1.1
            have HD:Hid (dk=shD d m t):=hdk
            have HR:Hid _:=hrt
            clear hdk hrt
            by_cases hlt:i<kk
            · have hltz:(i:Int)<(kk:Int):=by omega
              go_wp2_with fail
              have ea8:((kk:Int)).toNat=kk:=by omega
              have pa8:(0:Int)≤(kk:Int):=by omega
              have ba8:(kk:Int)<(d.size:Int):=by omega
              have ra8:IntKind.i64.wrap ((kk:Int))=(kk:Int):=by rw [IntKind.wrap_i64];omega
              have ec8:((kk:Int)-1).toNat=kk-1:=by omega
              have pc8:(0:Int)≤(kk:Int)-1:=by omega
              have bc8:(kk:Int)-1<(d.size:Int):=by omega
              have rc8:IntKind.i64.wrap ((kk:Int)-1)=(kk:Int)-1:=by rw [IntKind.wrap_i64];omega
              have S2:Aside (SWK enc k w0 blk off (swp dk (kk) (kk-1)) ((wr.drew.setCells blk (off+(kk)*k) (enc dk[kk-1]!)).setCells blk (off+(kk-1)*k) (enc dk[kk]!))):=S1.out.swapped R (kk) (kk-1) (by omega) (by omega)
              have l8a:=S1.out.ld1 R (by omega) P (kk) (by omega)
              have l8b:=S1.out.ld1 R (by omega) P (kk-1) (by omega)
              have s8a:=S1.out.st1 R (by omega) P (kk) (by omega) dk[kk-1]!
              have s8b:=S1.out.st2 R (by omega) P (kk) (kk-1) (by omega) (by omega) dk[kk-1]! dk[kk]!
              have n8a:(enc dk[kk]!).length=k:=R.hk _
              have n8b:(enc dk[kk-1]!).length=k:=R.hk _
              generalize enc dk[kk]! = cI8 at S2 l8a s8b n8a
              generalize enc dk[kk-1]! = cJ8 at S2 l8b s8a s8b n8b
              clear S1
              go_wp2_with fail
              go_big_region_o
              clear l8a l8b s8a s8b
              generalize (wr.drew.setCells blk (off+(kk)*k) cJ8).setCells blk (off+(kk-1)*k) cI8=w2 at S2 ⊢
              have HK2:Hid (kk-1+(t+1)=m):=by have h:=HK.out;show kk-1+_=_;omega
              have S3:Aside (SWK enc k w0 blk off (shD d m (t+1)) w2):=by
                have h':=HD.out
                have e:kk=m-t:=by have:=HK.out;omega
                subst h'
                rw [e] at S2
                exact S2
              clear S2
              go_wp2
              go_roundg (kk-1-i)
              case measure=>omega
              case rel=>exact ⟨t+1,kk-1,by go_num,HK2,by omega,by omega,Nat.le_refl _,S3⟩
            · have hltz : ¬ (i:Int)<(kk:Int):=by omega
              have HF:Hid (PermIn a b d dk∧SortedIn (ltOf cf) a b dk):=by
                rw [HBM.out]
                have hk:=HK.out
                have hr:=HR.out
                have e:m-t=i:=by omega
                rw [e] at hr
                exact ⟨permIn_mono _ _ i (m+1) a (m+1) hai (Nat.le_refl _) (by omega) hr.1,merge_last hO Z1.out hai hjb I.out.1 I.out.2 hr⟩
              go_wp2
              (try simp only [Exit.inBlock,Exit.then]);refine bodyPost_ret (results_none rfl _ _ _) rfl ?_
              exact ⟨rfl,dk,HF.out.1,HF.out.2,S1.out⟩
set_option maxHeartbeats 40000000 in
set_option maxRecDepth 1000000 in
theorem symMergeCR {P : Program} {α : Type} [Inhabited α] (L : SortsR P) (k : Nat) (aE : ∀ w, (isAgg 45).run P w = .ok true w) (zE : ∀ w, (Go.sizeOf 45).run P w = .ok k w) (enc : α → List Value) (cf : α → α → Int) (hO : SWO (ltOf cf)) (g : Nat) (cb : Array Value) (blk off cap : Nat) (d0 : Array α) (w0 : World)
    (eg : ∀ args w,(callFunc g args).run P w = .ok (.enter g args) w) (hcmp:CmpLays P g cb enc k cf blk off d0.size w0) (R:RowK enc k w0 blk off d0) (N:Nat)
    (ih : ∀ (a m b : Nat) (d : Array α) (w : World), b - a < N → d0.size = d.size → SWK enc k w0 blk off d w → a < m → m < b → b ≤ d.size → d.size < 4611686018427387904 → SortedIn (ltOf cf) a m d → SortedIn (ltOf cf) m b d →
      Calls P 113 #[.slice (some ⟨blk,off,none⟩) d.size cap,.int .i64 a,.int .i64 m,.int .i64 b,.func (.func g) #[] cb] w fun e w'=>e = .returned (.tuple #[])∧∃ d',PermIn a b d d'∧SortedIn (ltOf cf) a b d'∧SWK enc k w0 blk off d' w')
    (a m b:Nat) (d:Array α) (w:World) (hN:b-a<N+1) (hs:d0.size=d.size) (S:SWK enc k w0 blk off d w) (ham:a<m) (hmb:m<b) (hb:b≤d.size) (hsz:d.size<4611686018427387904) (s1:SortedIn (ltOf cf) a m d) (s2:SortedIn (ltOf cf) m b d) (h1 : ¬ m=a+1) (h2 : ¬ b=m+1) :
    Calls P 113 #[.slice (some ⟨blk,off,none⟩) d.size cap,.int .i64 a,.int .i64 m,.int .i64 b,.func (.func g) #[] cb] w fun e w'=>e = .returned (.tuple #[])∧∃ d',PermIn a b d d'∧SortedIn (ltOf cf) a b d'∧SWK enc k w0 blk off d' w':=by
  have mixed:=L.mixed;have t0:=L.t0;have t3:=L.t3;have a3:=L.a3;have z3:=L.z3;have v3:=L.v3;have t4:=L.t4;have a4:=L.a4;have z4:=L.z4;have v4:=L.v4;have t22:=L.t22;have a22:=L.a22;have z22:=L.z22;have v22:=L.v22;have t66:=L.t66;have a66:=L.a66;have z66:=L.z66;have v66:=L.v66;have t112:=L.t112;have a112:=L.a112;have z112:=L.z112;have v112:=L.v112;have efrt : ∀ args w,(callFunc 125 args).run P w = .ok (.enter 125 args) w:=enters_of L.frt (by kernel_rfl) rfl;have efsm : ∀ args w,(callFunc 113 args).run P w = .ok (.enter 113 args) w:=enters_of L.fsm (by kernel_rfl) rfl
  have HC:Aside _:=hcmp
  clear hcmp
  have S0:Aside (SWK enc k w0 blk off d w):=S
  have Z1:Hid (SortedIn (ltOf cf) a m d):=s1
  have Z2:Hid (SortedIn (ltOf cf) m b d):=s2
  clear S s1 s2
  go_enter L.fsm,Tryz.ntmps113
  · have hz : ¬ (m:Int)-(a:Int)=1:=by omega
    have hzb:((m:Int)-(a:Int) == 1)=false:=beq_eq_false_iff_ne.mpr hz
    · have hy : ¬ (b:Int)-(m:Int)=1:=by omega
      have hyb:((b:Int)-(m:Int) == 1)=false:=beq_eq_false_iff_ne.mpr hy
      go_upto_region 25 with (fail)
      obtain ⟨mid,hmn⟩ : ∃ mid:Nat,mid=(a+b) / 2:=⟨_,rfl⟩
      have hmid:((a:Int)+(b:Int)) / 2=(mid:Int):=by omega
      rw [hmid]
      have hm2:2*mid≤a+b∧a+b≤2*mid+1:=by omega
      clear hmid hmn
      go_upto_region 26 with (fail)
      obtain ⟨nn,hnn⟩ : ∃ nn:Nat,nn=mid+m:=⟨_,rfl⟩
      have hnnz:(mid:Int)+(m:Int)=(nn:Int):=by omega
      rw [hnnz]
      have hn2:nn≤mid+m∧mid+m≤nn:=by omega
      clear hnnz hnn
      obtain ⟨s0,r0,hsr⟩ : ∃ s0 r0:Nat,(mid<m∧s0+b=nn∧r0=mid)∨(m≤mid∧s0=a∧r0=m):=by
        by_cases hg:mid<m
        · exact ⟨nn-b,mid,.inl ⟨hg,by omega,rfl⟩⟩
        · exact ⟨a,m,.inr ⟨by omega,rfl,rfl⟩⟩
      go_upto_if 140 with (fail)
      go_cut [20,21] (fun v20 v21 wc=>v20 = .int .i64 s0∧v21 = .int .i64 r0∧w=wc)
      case first =>
        clear ih Z1 Z2 S0 HC
        by_cases hg:mid<m
        · have hgz:(mid:Int)<(m:Int):=by omega
          have e0:(nn:Int)-(b:Int)=(s0:Int):=by omega
          obtain rfl:r0=mid:=by omega
          go_wp2
          go_meet
          case rel=>exact ⟨rfl,rfl,rfl⟩
        · have hgz : ¬ (mid:Int)<(m:Int):=by omega
          obtain rfl:s0=a:=by omega
          obtain rfl:r0=m:=by omega
          go_wp2
          go_meet
          case rel=>exact ⟨rfl,rfl,rfl⟩
      case rest =>
        obtain ⟨rfl,rfl,rfl⟩:=hcut
        have hb0:=sym_start ham hmb hm2 hn2 hsr
        go_wp2_with fail
        go_loopg [20,21] b (fun kx s20 s21 wr=>∃ s r:Nat,s20 = .int .i64 s∧s21 = .int .i64 r∧s0≤s∧s≤r∧r≤r0∧r-s≤kx∧Aside (SWK enc k w0 blk off d wr)∧Hid ((s=s0∨ltOf cf d[nn-s]! d[s-1]! = false)∧(r=r0∨ltOf cf d[nn-1-r]! d[r]! = true)))
        case atStart=>exact ⟨s0,r0,rfl,rfl,Nat.le_refl _,by omega,Nat.le_refl _,by omega,S0,(show Hid _ from ⟨.inl rfl,.inl rfl⟩)⟩
        case round =>
          clear S0
          obtain ⟨s,r,rfl,rfl,hs0,hsr',hr0,hkx,S1,I⟩:=hrel
          by_cases hlt:s<r
          · have hltz:(s:Int)<(r:Int):=by omega
            obtain ⟨pc,hpc,hp2⟩:=sym_pc hlt (show r<nn by omega) (show nn<9223372036854775808 by omega)
            have hpw:IntKind.i64.wrap ((nn:Int)-1-((s:Int)+(r:Int)) / 2)=(pc:Int):=by rw [hpc,IntKind.wrap_i64];omega
            cases hL:ltOf cf d[pc]! d[(s+r) / 2]! with
            | false =>
              have ea9:((pc:Int)).toNat=pc:=by omega
              have pa9:(0:Int)≤(pc:Int):=by omega
              have ba9:(pc:Int)<(d.size:Int):=by omega
              have ra9:IntKind.i64.wrap ((pc:Int))=(pc:Int):=by rw [IntKind.wrap_i64];omega
              have ec9:(((s:Int)+(r:Int)) / 2).toNat=(s+r) / 2:=by omega
              have pc9:(0:Int)≤((s:Int)+(r:Int)) / 2:=by omega
              have bc9:((s:Int)+(r:Int)) / 2<(d.size:Int):=by omega
              have rc9:IntKind.i64.wrap (((s:Int)+(r:Int)) / 2)=((s:Int)+(r:Int)) / 2:=by rw [IntKind.wrap_i64];omega
              obtain ⟨x9,hx9⟩ : ∃ x,x=d[pc]!:=⟨_,rfl⟩
              obtain ⟨y9,hy9⟩ : ∃ x,x=d[(s+r) / 2]!:=⟨_,rfl⟩
              have l9a:=S1.out.ld R (by omega) P (pc) (by omega)
              have l9b:=S1.out.ld R (by omega) P ((s+r) / 2) (by omega)
              rw [← hx9] at l9a
              rw [← hy9] at l9b
              have hc9:=S1.out.cmp HC.out (by omega) x9 y9
              have hv9 : ¬ cf x9 y9<0:=by rw [hx9,hy9];exact of_decide_eq_false hL
              have hd9:decide (cf x9 y9<0)=false:=decide_eq_false hv9
              clear hx9 hy9
              go_wp2_with fail
              go_quiet_grown (first|(go_at_fn g;refine Calls.grown_of (hc9 _ _)))
              have S2:Aside (SWK enc k w0 blk off d (grow (wr.drewN nq) osq)):=S1.out.grown nq osq
              clear l9a l9b hc9 S1
              generalize grow (wr.drewN nq) osq=w2 at S2 ⊢
              clear nq osq
              go_wp2
              go_roundg (r-((s+r) / 2+1))
              case measure=>omega
              case rel=>exact ⟨(s+r) / 2+1,r,by rw [show ((s:Int)+(r:Int)) / 2+1=(((s+r) / 2+1:Nat):Int) by omega],rfl,by omega,by omega,hr0,Nat.le_refl _,S2,(show Hid _ from ⟨.inr (by rw [Nat.add_sub_cancel,show nn-((s+r) / 2+1)=pc by omega];exact hL),I.out.2⟩)⟩
            | true =>
              have ea9:((pc:Int)).toNat=pc:=by omega
              have pa9:(0:Int)≤(pc:Int):=by omega
              have ba9:(pc:Int)<(d.size:Int):=by omega
              have ra9:IntKind.i64.wrap ((pc:Int))=(pc:Int):=by rw [IntKind.wrap_i64];omega
              have ec9:(((s:Int)+(r:Int)) / 2).toNat=(s+r) / 2:=by omega
              have pc9:(0:Int)≤((s:Int)+(r:Int)) / 2:=by omega
              have bc9:((s:Int)+(r:Int)) / 2<(d.size:Int):=by omega
              have rc9:IntKind.i64.wrap (((s:Int)+(r:Int)) / 2)=((s:Int)+(r:Int)) / 2:=by rw [IntKind.wrap_i64];omega
              obtain ⟨x9,hx9⟩ : ∃ x,x=d[pc]!:=⟨_,rfl⟩
              obtain ⟨y9,hy9⟩ : ∃ x,x=d[(s+r) / 2]!:=⟨_,rfl⟩
              have l9a:=S1.out.ld R (by omega) P (pc) (by omega)
              have l9b:=S1.out.ld R (by omega) P ((s+r) / 2) (by omega)
              rw [← hx9] at l9a
              rw [← hy9] at l9b
              have hc9:=S1.out.cmp HC.out (by omega) x9 y9
              have hv9:cf x9 y9<0:=by rw [hx9,hy9];exact of_decide_eq_true hL
              have hd9:decide (cf x9 y9<0)=true:=decide_eq_true hv9
              clear hx9 hy9
              go_wp2_with fail
              go_quiet_grown (first|(go_at_fn g;refine Calls.grown_of (hc9 _ _)))
              have S2:Aside (SWK enc k w0 blk off d (grow (wr.drewN nq) osq)):=S1.out.grown nq osq
              clear l9a l9b hc9 S1
              generalize grow (wr.drewN nq) osq=w2 at S2 ⊢
              clear nq osq
              go_wp2
              go_roundg ((s+r) / 2-s)
              case measure=>omega
              case rel=>exact ⟨s,(s+r) / 2,rfl,by rw [show ((s:Int)+(r:Int)) / 2=(((s+r) / 2:Nat):Int) by omega],hs0,by omega,by omega,Nat.le_refl _,S2,(show Hid _ from ⟨I.out.1,.inr (by rw [show nn-1-(s+r) / 2=pc by omega];exact hL)⟩)⟩
          · obtain rfl:s=r:=by omega
            have hltz : ¬ (s:Int)<(s:Int):=by omega
            clear hlt hkx hsr'
            obtain ⟨en,hen⟩ : ∃ en:Nat,en=nn-s:=⟨_,rfl⟩
            have henz:(nn:Int)-(s:Int)=(en:Int):=by omega
            have hen2:en+s≤nn∧nn≤en+s:=by omega
            have hbe:=sym_end ham hmb hm2 hn2 hsr hs0 hr0 hen
            have I2:Hid ((s=a∨en=b∨ltOf cf d[en]! d[s-1]! = false)∧(s=m∨en=m∨ltOf cf d[en-1]! d[s]! = true)):=by
              have i1:=I.out.1
              have i2:=I.out.2
              rw [← hen] at i1
              rw [show nn-1-s=en-1 by omega] at i2
              exact sym_ends hn2 hsr hen (by omega) i1 i2
            clear I hsr hb0 hs0 hr0 hen
            obtain ⟨tb,htb⟩ : ∃ tb:Bool,tb=(decide (s<m) && decide (m<en)):=⟨_,rfl⟩
            have HTB:Hid (tb=(decide (s<m) && decide (m<en))):=htb
            clear htb
            go_upto_region 39 with (fail)
            go_cut [185] (fun v185 wc=>v185 = .bool tb∧wr=wc)
            case first =>
              by_cases q1:s<m
              · have q1z:(s:Int)<(m:Int):=by omega
                by_cases q2:m<en
                · have q2z:(m:Int)<(en:Int):=by omega
                  have e:tb=true:=by rw [HTB.out,decide_eq_true q1,decide_eq_true q2];rfl
                  subst e
                  clear ih HTB
                  go_wp2
                  go_meet
                  case rel=>exact ⟨rfl,rfl⟩
                · have q2z : ¬ (m:Int)<(en:Int):=by omega
                  have e:tb=false:=by rw [HTB.out,decide_eq_false q2];simp
                  subst e
                  clear ih HTB
                  go_wp2
                  go_meet
                  case rel=>exact ⟨rfl,rfl⟩
              · have q1z : ¬ (s:Int)<(m:Int):=by omega
                have e:tb=false:=by rw [HTB.out,decide_eq_false q1];simp
                subst e
                clear ih HTB
                go_wp2
                go_meet
                case rel=>exact ⟨rfl,rfl⟩
            case rest =>
              obtain ⟨rfl,rfl⟩:=hcut
              go_upto_if 185 with (fail)
              go_cut [184] (fun v184 wc=>∃ D,Aside (SWK enc k w0 blk off D wc)∧Hid (IsRot s m en d D))
              case first =>
                clear ih Z1 Z2 HC I2
                cases tb with
                | true =>
                  have hq:s<m∧m<en:=by have:=HTB.out;simpa using this.symm
                  have hc:=rotateR L k aE zE enc (.func (.func g) #[] cb) blk off cap s m en d0 d w0 wr R hs S1.out hq.1 hq.2 (by omega) hsz
                  clear hq HTB
                  go_wp2_with (go_at_fn 125;refine hc.mono ?_;rintro e w2 ⟨rfl,D,hD,S2⟩)
                  go_meet
                  case rel=>exact ⟨D,S2,hD⟩
                | false =>
                  have hq:s=m∨m=en:=by have:=HTB.out;simp at this;omega
                  have HQ:Hid (s=m∨m=en):=hq
                  clear hq HTB
                  go_wp2
                  go_meet
                  case rel=>exact ⟨d,S1,rot_none HQ.out (by omega) (by omega)⟩
              case rest =>
               as_aux_lemma =>
                obtain ⟨D,S2,HR⟩:=hcut
                have HX:=merge_rot hO Z1.out Z2.out hbe.1 hbe.2.1 hbe.2.2.1 hbe.2.2.2.1 hbe.2.2.2.2.1 I2.out.1 I2.out.2 HR.out
                have hDs:D.size=d.size:=HR.out.1.1
                have HP:Hid (PermIn a b d D):=permIn_mono _ _ s en a b hbe.1 hbe.2.2.2.1 hb HR.out.1
                have HX:Hid _:=HX
                obtain ⟨wv,hwv⟩ : ∃ wv:World,wv=wc:=⟨_,rfl⟩
                subst hwv
                clear S1 I2 HR Z1 Z2 HTB
                try clear tb
                obtain ⟨tb,htb⟩ : ∃ tb:Bool,tb=(decide (a<s) && decide (s<mid)):=⟨_,rfl⟩
                have HTB:Hid (tb=(decide (a<s) && decide (s<mid))):=htb
                clear htb
                go_upto_region 41 with (fail)
                go_cut [199] (fun v199 wc=>v199 = .bool tb∧wv=wc)
                case first =>
                  by_cases q1:a<s
                  · have q1z:(a:Int)<(s:Int):=by omega
                    by_cases q2:s<mid
                    · have q2z:(s:Int)<(mid:Int):=by omega
                      have e:tb=true:=by rw [HTB.out,decide_eq_true q1,decide_eq_true q2];rfl
                      subst e
                      clear ih HTB
                      go_wp2
                      go_meet
                      case rel=>exact ⟨rfl,rfl⟩
                    · have q2z : ¬ (s:Int)<(mid:Int):=by omega
                      have e:tb=false:=by rw [HTB.out,decide_eq_false q2];simp
                      subst e
                      clear ih HTB
                      go_wp2
                      go_meet
                      case rel=>exact ⟨rfl,rfl⟩
                  · have q1z : ¬ (a:Int)<(s:Int):=by omega
                    have e:tb=false:=by rw [HTB.out,decide_eq_false q1];simp
                    subst e
                    clear ih HTB
                    go_wp2
                    go_meet
                    case rel=>exact ⟨rfl,rfl⟩
                case rest =>
                  obtain ⟨rfl,rfl⟩:=hcut
                  go_upto_if 199 with (fail)
                  go_cut [198] (fun v198 wc=>∃ D1,Aside (SWK enc k w0 blk off D1 wc)∧Hid (PermIn a mid D D1∧SortedIn (ltOf cf) a mid D1))
                  case first =>
                    cases tb with
                    | true =>
                      have hq:a<s∧s<mid:=by have:=HTB.out;simpa using this.symm
                      have hc:=ih a s mid D wv (by omega) (by omega) S2.out hq.1 hq.2 (by omega) (by omega) HX.out.1 HX.out.2.1
                      rw [hDs] at hc
                      clear ih HC hq HTB
                      go_wp2_with (go_at_fn 113;refine hc.mono ?_;rintro e w2 ⟨rfl,D1,hD,hD',S3⟩)
                      go_meet
                      case rel=>exact ⟨D1,S3,⟨hD,hD'⟩⟩
                    | false =>
                      have hq:s=a∨s=mid:=by have:=HTB.out;simp at this;omega
                      have HS:Hid (SortedIn (ltOf cf) a mid D):=by
                        rcases hq with e|e
                        · have:=HX.out.2.1;rw [e] at this;exact this
                        · have:=HX.out.1;rw [e] at this;exact this
                      clear ih HC hq HTB
                      go_wp2
                      go_meet
                      case rel=>exact ⟨D,S2,⟨permIn_refl _ _ _,HS.out⟩⟩
                  case rest =>
                   as_aux_lemma =>
                    obtain ⟨D1,S3,HM⟩:=hcut
                    have hD1:D1.size=d.size:=HM.out.1.1.trans hDs
                    have HJ:Hid (∀ D2,PermIn mid b D1 D2→SortedIn (ltOf cf) mid b D2→PermIn a b d D2∧SortedIn (ltOf cf) a b D2):=fun D2 p2 s2=>by
                      have:=merge_halves (mid:=mid) (by omega) (by omega) (by omega) HX.out.2.2.2.2 HM.out.1 HM.out.2 p2 s2
                      exact ⟨permIn_trans _ _ _ _ _ HP.out this.1,this.2⟩
                    have HY:Hid (SortedIn (ltOf cf) mid en D1∧SortedIn (ltOf cf) en b D1):=⟨srt_congr HX.out.2.2.1 (fun x hx _=>HM.out.1.2.1 x (.inr hx)),srt_congr HX.out.2.2.2.1 (fun x hx _=>HM.out.1.2.1 x (.inr (by omega)))⟩
                    clear S2 HX HM HP HTB
                    try clear tb
                    by_cases q1:mid<en
                    · have q1z:(mid:Int)<(en:Int):=by omega
                      by_cases q2:en<b
                      · have q2z:(en:Int)<(b:Int):=by omega
                        have hc:=ih mid en b D1 wc (by omega) (by omega) S3.out q1 q2 (by omega) (by omega) HY.out.1 HY.out.2
                        rw [hD1] at hc
                        clear ih HC
                        go_wp2_with (go_at_fn 113;refine hc.mono ?_;rintro e w2 ⟨rfl,D2,hD,hD',S4⟩)
                        go_end0
                        have hF:=HJ.out D2 hD hD'
                        exact ⟨rfl,D2,hF.1,hF.2,S4⟩
                      · have q2z : ¬ (en:Int)<(b:Int):=by omega
                        have e:en=b:=by omega
                        have hF:=HJ.out D1 (permIn_refl _ _ _) (by have:=HY.out.1;rw [e] at this;exact this)
                        have HF:Hid _:=hF
                        clear ih HC hF HY HJ e
                        go_wp2
                        go_end0
                        exact ⟨rfl,D1,HF.out.1,HF.out.2,S3.out⟩
                    · have q1z : ¬ (mid:Int)<(en:Int):=by omega
                      have e:en=mid:=by omega
                      have hF:=HJ.out D1 (permIn_refl _ _ _) (by have:=HY.out.2;rw [e] at this;exact this)
                      have HF:Hid _:=hF
                      clear ih HC hF HY HJ e
                      go_wp2
                      go_end0
                      exact ⟨rfl,D1,HF.out.1,HF.out.2,S3.out⟩
theorem symMergeR {P : Program} {α : Type} [Inhabited α] (L : SortsR P) (k : Nat) (aE : ∀ w, (isAgg 45).run P w = .ok true w) (zE : ∀ w, (Go.sizeOf 45).run P w = .ok k w) (enc : α → List Value) (cf : α → α → Int) (hO : SWO (ltOf cf)) (g : Nat) (cb : Array Value) (blk off cap : Nat) (d0 : Array α) (w0 : World)
    (eg : ∀ args w,(callFunc g args).run P w = .ok (.enter g args) w) (hcmp:CmpLays P g cb enc k cf blk off d0.size w0) (R:RowK enc k w0 blk off d0) :
    ∀ (N a m b:Nat) (d:Array α) (w:World),b-a<N→d0.size=d.size→SWK enc k w0 blk off d w→a<m→m<b→b≤d.size→d.size<4611686018427387904→SortedIn (ltOf cf) a m d→SortedIn (ltOf cf) m b d →
    Calls P 113 #[.slice (some ⟨blk,off,none⟩) d.size cap,.int .i64 a,.int .i64 m,.int .i64 b,.func (.func g) #[] cb] w fun e w'=>e = .returned (.tuple #[])∧∃ d',PermIn a b d d'∧SortedIn (ltOf cf) a b d'∧SWK enc k w0 blk off d' w':=by
  intro N
  induction N with
  | zero=>intro a m b d w h;omega
  | succ N ih =>
    intro a m b d w hN hs S ham hmb hb hsz s1 s2
    by_cases h1:m=a+1
    · exact symMergeAR L k aE zE enc cf hO g cb blk off cap d0 w0 eg hcmp R a m b d w hs S ham hmb hb hsz s1 s2 h1
    · by_cases h2:b=m+1
      · exact symMergeBR L k aE zE enc cf hO g cb blk off cap d0 w0 eg hcmp R a m b d w hs S ham hmb hb hsz s1 s2 h1 h2
      · exact symMergeCR L k aE zE enc cf hO g cb blk off cap d0 w0 eg hcmp R N ih a m b d w hN hs S ham hmb hb hsz s1 s2 h1 h2
theorem insR {α : Type} [Inhabited α] (k : Nat) (aE : ∀ w, (isAgg 45).run Tryz.prog w = .ok true w) (zE : ∀ w, (Go.sizeOf 45).run Tryz.prog w = .ok k w) (enc : α → List Value) (cf : α → α → Int) (hO : SWO (ltOf cf)) (g : Nat) (cb : Array Value) (blk off cap : Nat) (d0 : Array α) (w0 : World)
    (eg : ∀ args w,(callFunc g args).run Tryz.prog w = .ok (.enter g args) w) (hcmp:CmpLays Tryz.prog g cb enc k cf blk off d0.size w0) (R:RowK enc k w0 blk off d0) (a b:Nat) (d:Array α) (w:World) (hs:d0.size=d.size) (S:SWK enc k w0 blk off d w) (hab:a≤b) (hb:b≤d.size) (hsz:d.size<4611686018427387904) :
    Calls Tryz.prog 112 #[.slice (some ⟨blk,off,none⟩) d.size cap,.int .i64 a,.int .i64 b,.func (.func g) #[] cb] w fun e w'=>e = .returned (.tuple #[])∧∃ d',PermIn a b d d'∧SortedIn (ltOf cf) a b d'∧SWK enc k w0 blk off d' w':=by
  have h:=insertionSort_holds hO d a b hab hb
  have hC:CmpLays Tryz.prog g cb enc k cf blk off d.size w:=fun m os dk hdk x y=>by
    obtain ⟨n0,os0,rfl⟩:=S
    rw [sortWorldK_on enc k w0 blk off n0 m d dk os0 os R.hblk hdk]
    exact hcmp _ _ dk (by omega) x y
  refine (AnyQ.insertionSortCmpFunc Tryz.insR k aE zE enc R.hk R.h1 cf g cb blk off cap a b d w eg hC (S.holds R.hblk R.hH hs.symm) (S.lt R.hblk) hab hb hsz).mono ?_
  rintro e w' ⟨rfl,n,os,rfl⟩
  exact ⟨rfl,_,h.1,h.2,S.on R.hblk n _ os h.1.1⟩
set_option maxHeartbeats 8000000 in
set_option maxRecDepth 1000000 in
theorem stableR {α : Type} [Inhabited α] (k : Nat) (aE : ∀ w, (isAgg 45).run Tryz.prog w = .ok true w) (zE : ∀ w, (Go.sizeOf 45).run Tryz.prog w = .ok k w) (enc : α → List Value) (cf : α → α → Int) (hO : SWO (ltOf cf)) (g : Nat) (cb : Array Value) (blk off cap : Nat) (d : Array α) (w0 : World)
    (eg : ∀ args w,(callFunc g args).run Tryz.prog w = .ok (.enter g args) w) (hcmp:CmpLays Tryz.prog g cb enc k cf blk off d.size w0) (R:RowK enc k w0 blk off d) (hsz:d.size<1152921504606846976) :
    Calls Tryz.prog 106 #[.slice (some ⟨blk,off,none⟩) d.size cap,.int .i64 d.size,.func (.func g) #[] cb] w0 fun e w'=>e = .returned (.tuple #[])∧∃ d',PermIn 0 d.size d d'∧SortedIn (ltOf cf) 0 d.size d'∧SWK enc k w0 blk off d' w':=by
  have HI:Aside (∀ (a b:Nat) (dk:Array α) (w:World),d.size=dk.size→SWK enc k w0 blk off dk w→a≤b→b≤dk.size→Calls Tryz.prog 112 #[.slice (some ⟨blk,off,none⟩) d.size cap,.int .i64 a,.int .i64 b,.func (.func g) #[] cb] w fun e w'=>e = .returned (.tuple #[])∧∃ d',PermIn a b dk d'∧SortedIn (ltOf cf) a b d'∧SWK enc k w0 blk off d' w'):=fun a b dk w hs S h1 h2=>by
    have:=insR k aE zE enc cf hO g cb blk off cap d w0 eg hcmp R a b dk w hs S h1 h2 (by omega)
    rw [← hs] at this
    exact this
  have HM:Aside (∀ (a m b:Nat) (dk:Array α) (w:World),d.size=dk.size→SWK enc k w0 blk off dk w→a<m→m<b→b≤dk.size→SortedIn (ltOf cf) a m dk→SortedIn (ltOf cf) m b dk→Calls Tryz.prog 113 #[.slice (some ⟨blk,off,none⟩) d.size cap,.int .i64 a,.int .i64 m,.int .i64 b,.func (.func g) #[] cb] w fun e w'=>e = .returned (.tuple #[])∧∃ d',PermIn a b dk d'∧SortedIn (ltOf cf) a b d'∧SWK enc k w0 blk off d' w'):=fun a m b dk w hs S h1 h2 h3 s1 s2=>by
    have:=symMergeR sortsR k aE zE enc cf hO g cb blk off cap d w0 eg hcmp R (b-a+1) a m b dk w (by omega) hs S h1 h2 h3 (by omega) s1 s2
    rw [← hs] at this
    exact this
  have S0:Aside (SWK enc k w0 blk off d w0):=SWK.start R.hH
  obtain ⟨n,hn⟩ : ∃ n,n=d.size:=⟨_,rfl⟩
  rw [← hn] at HI HM hsz ⊢
  have HN:Hid (n=d.size):=hn
  clear hcmp hn
  go_enter Tryz.func106,Tryz.ntmps106
  go_wp2
  go_loopg [7,8] n (fun kx s7 s8 wr=>∃ (s A B:Nat) (dk:Array α),s7 = .int .i64 A∧s8 = .int .i64 B∧A≤n∧A<B∧B≤A+20∧n-A≤kx∧Hid (A=s*20∧B=s*20+20)∧Aside (SWK enc k w0 blk off dk wr)∧Hid (PermIn 0 n d dk∧RunsIn (ltOf cf) 20 0 (s*20) n dk))
  case atStart=>exact ⟨0,0,20,d,rfl,rfl,by omega,by omega,by omega,by omega,(show Hid _ from ⟨by omega,by omega⟩),S0,(show Hid _ from ⟨permIn_refl _ _ _,fun t _ h=>by omega⟩)⟩
  case round =>
    clear S0
    obtain ⟨s,A,B,dk,rfl,rfl,hAn,hAB,hB20,hkx,HA,S1,HR⟩:=hrel
    have hdk:n=dk.size:=HN.out.trans HR.out.1.1.symm
    by_cases hlt:B≤n
    · have hltz:(B:Int)≤(n:Int):=by omega
      have hc:=HI.out A B dk wr hdk S1.out (by omega) (by have:=HN.out;omega)
      clear hdk
      go_wp2_with (go_at_call 112;refine hc.mono ?_;rintro e w1 ⟨rfl,d1,hp,hs1,S2⟩)
      have S2:Aside _:=S2
      have HA2:Hid (B=(s+1)*20∧B+20=(s+1)*20+20):=by have:=HA.out;exact ⟨by omega,by omega⟩
      have HR2:Hid (PermIn 0 n d d1∧RunsIn (ltOf cf) 20 0 ((s+1)*20) n d1):=by
        have hA:=HA.out
        have hN:=HN.out
        have hs2:d.size=dk.size:=HR.out.1.1.symm
        rw [hA.1,hA.2] at hp hs1
        rw [show (s+1)*20=s*20+20 by omega]
        exact ⟨permIn_trans _ _ _ _ _ HR.out.1 (permIn_mono _ _ _ _ 0 n (by omega) (by omega) (by omega) hp),runs_next HR.out.2 (by omega) hp hs1⟩
      clear hp hs1 HR HA
      go_roundg (n-B)
      case measure=>omega
      case rel=>exact ⟨s+1,B,B+20,d1,rfl,by go_num,hlt,by omega,by omega,Nat.le_refl _,HA2,S2,HR2⟩
    · have hltz : ¬ (B:Int)≤(n:Int):=by omega
      have hc:=HI.out A n dk wr hdk S1.out hAn (by have:=HN.out;omega)
      clear hdk
      go_wp2_with (go_at_call 112;refine hc.mono ?_;rintro e w1 ⟨rfl,d1,hp,hs1,S2⟩)
      have S2:Aside _:=S2
      have HR2:Hid (PermIn 0 n d d1∧RunsIn (ltOf cf) 20 0 n n d1):=by
        have hA:=HA.out
        have hN:=HN.out
        have hs2:d.size=dk.size:=HR.out.1.1.symm
        rw [hA.1] at hp hs1
        exact ⟨permIn_trans _ _ _ _ _ HR.out.1 (permIn_mono _ _ _ _ 0 n (by omega) (by omega) (by omega) hp),runs_last HR.out.2 (by omega) hp hs1⟩
      clear hp hs1 HR HA S1 hAn hAB hB20 hkx hlt hltz hc
      go_loopg [6] n (fun kx s6 wr=>∃ (bs:Nat) (dk:Array α),s6 = .int .i64 bs∧0<bs∧bs<2305843009213693952∧n-bs≤kx∧Aside (SWK enc k w0 blk off dk wr)∧Hid (PermIn 0 n d dk∧RunsIn (ltOf cf) bs 0 n n dk))
      case atStart=>exact ⟨20,d1,rfl,by omega,by omega,by omega,S2,HR2⟩
      case round =>
        clear S2 HR2
        obtain ⟨bs,dk,rfl,hb0,hb1,hkx,S1,HR⟩:=hrel
        by_cases hlt:bs<n
        · have hltz:(bs:Int)<(n:Int):=by omega
          go_wp2
          obtain ⟨wo,hwo⟩ : ∃ wo:World,wo=wr:=⟨_,rfl⟩
          subst hwo
          go_loopg [7,8] n (fun kx s7 s8 wr=>∃ (s A B:Nat) (dk:Array α),s7 = .int .i64 A∧s8 = .int .i64 B∧A≤n∧A+2*bs≤B∧B≤A+2*bs∧n-A≤kx∧Hid (A=s*(2*bs))∧Aside (SWK enc k w0 blk off dk wr)∧Hid (PermIn 0 n d dk∧RunsIn (ltOf cf) (2*bs) 0 A n dk∧RunsIn (ltOf cf) bs A n n dk))
          case atStart=>exact ⟨0,0,2*bs,dk,rfl,by go_num,by omega,by omega,by omega,by omega,(show Hid (0=0*(2*bs)) from (Nat.zero_mul _).symm),S1,(show Hid _ from ⟨HR.out.1,fun t _ h=>by omega,HR.out.2⟩)⟩
          case round =>
            clear S1 HR
            obtain ⟨s,A,B,dk,rfl,rfl,hAn,hAB,hBA,hky,HA,S1,HR⟩:=hrel
            have hdk:n=dk.size:=HN.out.trans HR.out.1.1.symm
            by_cases hle:B≤n
            · have hlez:(B:Int)≤(n:Int):=by omega
              have e1:((A+bs:Nat):Int)=(A:Int)+(bs:Int):=by omega
              have hrt:=runs_two (s:=s) (by have:=HA.out;rw [← this];exact HR.out.2.2) (by have:=HA.out;omega) hb0
              rw [← HA.out] at hrt
              have hBe:B=A+2*bs:=by omega
              have hc:=HM.out A (A+bs) B dk wr hdk S1.out (by omega) (by omega) (by have:=HN.out;omega) hrt.1 (by rw [hBe];exact hrt.2)
              rw [e1] at hc
              clear hdk hrt e1 hBe
              have r2:IntKind.i64.wrap ((B:Int)+2*(bs:Int))=(B:Int)+2*(bs:Int):=by rw [IntKind.wrap_i64];omega
              go_wp2_with (go_at_call 113;refine hc.mono ?_;rintro e w1 ⟨rfl,d1,hp,hs1,S2⟩)
              have S2:Aside _:=S2
              have HA2:Hid (B=(s+1)*(2*bs)):=by have:=HA.out;show B=_;rw [Nat.add_mul,Nat.one_mul,← this];omega
              have HR2:Hid (PermIn 0 n d d1∧RunsIn (ltOf cf) (2*bs) 0 B n d1∧RunsIn (ltOf cf) bs B n n d1):=by
                have hA:=HA.out
                have hN:=HN.out
                have hs2:d.size=dk.size:=HR.out.1.1.symm
                have hBe:B=A+2*bs:=by omega
                have hBm:B≤n:=hle
                rw [hBe] at hp hs1 hBm ⊢
                refine ⟨permIn_trans _ _ _ _ _ HR.out.1 (permIn_mono _ _ _ _ 0 n (by omega) hBm (by omega) hp),?_,runs_keep HR.out.2.2 (by omega) (fun x hx=>hp.2.1 x (.inr hx))⟩
                have h1:=HR.out.2.1
                rw [hA] at h1 hp hs1 hBm ⊢
                exact runs_next h1 hBm hp hs1
              clear hp hs1 HR HA
              go_roundg (n-B)
              case measure=>omega
              case rel=>exact ⟨s+1,B,B+2*bs,d1,rfl,by go_num,hle,by omega,by omega,Nat.le_refl _,HA2,S2,HR2⟩
            · have hlez : ¬ (B:Int)≤(n:Int):=by omega
              have r2:IntKind.i64.wrap ((bs:Int)*2)=(bs:Int)*2:=by rw [IntKind.wrap_i64];omega
              by_cases hm:A+bs<n
              · have hmz:(A:Int)+(bs:Int)<(n:Int):=by omega
                have e1:((A+bs:Nat):Int)=(A:Int)+(bs:Int):=by omega
                have hrt:=runs_tail (s:=s) (by have:=HA.out;rw [← this];exact HR.out.2.2) (by have:=HA.out;omega) (by have:=HA.out;omega)
                rw [← HA.out] at hrt
                have hc:=HM.out A (A+bs) n dk wr hdk S1.out (by omega) hm (by have:=HN.out;omega) hrt.1 hrt.2
                rw [e1] at hc
                clear hdk hrt e1
                go_wp2_with (go_at_call 113;refine hc.mono ?_;rintro e w1 ⟨rfl,d1,hp,hs1,S2⟩)
                have S2:Aside _:=S2
                have HR2:Hid (PermIn 0 n d d1∧RunsIn (ltOf cf) (2*bs) 0 n n d1):=by
                  have hA:=HA.out
                  have hN:=HN.out
                  have hs2:d.size=dk.size:=HR.out.1.1.symm
                  refine ⟨permIn_trans _ _ _ _ _ HR.out.1 (permIn_mono _ _ _ _ 0 n (by omega) (Nat.le_refl _) (by omega) hp),?_⟩
                  have h1:=HR.out.2.1
                  rw [hA] at h1 hp hs1
                  exact runs_last h1 (by omega) hp hs1
                clear hp hs1 HR HA
                go_roundg (n-2*bs)
                case measure=>omega
                case rel=>exact ⟨2*bs,d1,by go_num,by omega,by omega,Nat.le_refl _,S2,HR2⟩
              · have hmz : ¬ (A:Int)+(bs:Int)<(n:Int):=by omega
                have HR2:Hid (PermIn 0 n d dk∧RunsIn (ltOf cf) (2*bs) 0 n n dk):=by
                  have hA:=HA.out
                  refine ⟨HR.out.1,?_⟩
                  have h1:=HR.out.2.1
                  have h2:=HR.out.2.2
                  rw [hA] at h1 h2
                  exact runs_last h1 (by omega) (permIn_refl _ _ _) (runs_rest h2 (by omega))
                clear HR HA hdk
                go_wp2
                go_roundg (n-2*bs)
                case measure=>omega
                case rel=>exact ⟨2*bs,dk,by go_num,by omega,by omega,Nat.le_refl _,S1,HR2⟩
        · have hltz : ¬ (bs:Int)<(n:Int):=by omega
          have HS:Hid (SortedIn (ltOf cf) 0 n dk):=runs_all HR.out.2 (by omega)
          go_wp2
          go_end0
          exact ⟨rfl,dk,HR.out.1,HS.out,S1.out⟩
theorem sortStableR {α : Type} [Inhabited α] (k : Nat) (aE : ∀ w, (isAgg 45).run Tryz.prog w = .ok true w) (zE : ∀ w, (Go.sizeOf 45).run Tryz.prog w = .ok k w) (enc : α → List Value) (cf : α → α → Int) (hO : SWO (ltOf cf)) (g : Nat) (cb : Array Value) (blk off cap : Nat) (d : Array α) (w0 : World)
    (eg : ∀ args w,(callFunc g args).run Tryz.prog w = .ok (.enter g args) w) (hcmp:CmpLays Tryz.prog g cb enc k cf blk off d.size w0) (R:RowK enc k w0 blk off d) (hsz:d.size<1152921504606846976) :
    Calls Tryz.prog 91 #[.slice (some ⟨blk,off,none⟩) d.size cap,.func (.func g) #[] cb] w0 fun e w'=>e = .returned (.tuple #[])∧∃ d',PermIn 0 d.size d d'∧SortedIn (ltOf cf) 0 d.size d'∧SWK enc k w0 blk off d' w':=by
  have hc:=stableR k aE zE enc cf hO g cb blk off cap d w0 eg hcmp R hsz
  clear hcmp R
  go_enter Tryz.func91,Tryz.ntmps91
  go_wp2_with (go_at_call 106;refine hc.mono ?_;rintro e w1 ⟨rfl,d1,hp,hs1,S2⟩)
  go_end0
  exact ⟨rfl,d1,hp,hs1,S2⟩
end Go.Proofs.YtoemkemmiikhlaaGreat.Sym
