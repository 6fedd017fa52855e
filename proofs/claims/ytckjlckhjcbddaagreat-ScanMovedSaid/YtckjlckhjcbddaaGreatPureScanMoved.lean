import Derived.Test.YtckjlckhjcbddaaGreatSaysScanMoved
import Derived.Test.YtckjlckhjcbddaaGreatLibMove
set_option linter.unusedVariables false
set_option linter.unusedSectionVars false
set_option linter.unusedSimpArgs false
namespace Go.Proofs.YtckjlckhjcbddaaGreat.Pure
open Go.RowKit Go.Proofs.YtckjlckhjcbddaaGreat.PG3 Go.Proofs.YtckjlckhjcbddaaGreatW.PrintWords Go.Proofs.YtckjlckhjcbddaaGreatW.PrintLast Go.Proofs.YtckjlckhjcbddaaGreatW.PrintMore
section
variable (ll:List (List S47)) (even:Bool) (di dk j:Int) (hdi:0≤di) (hdi':di≤19) (hdk:0≤dk) (hdk':dk≤19) (hj:0≤j) (hj':j≤39) (L:List Sp) (e:Int)
include hdi hdi' hdk hdk'
theorem poly_go (p:List S47) (hp : ∀ x∈p,isPt x=true) (hpl:p.length≤1000) (other:List (List S47)) (ho:other.length≤1000) (n k:Nat) (d:Nat) : ∀ m:Nat,m+d=p.length →
  fleuronlaw19_ScanMoved.l1 (k+d+1) ll even di dk j L e other p ((List.range m).map fun i=>mvP (65536*di) (65536*dk) (nxt p i)) (ll.length:Int) (n:Int) (p.length:Int) (m:Int)=fleuronlaw19_ScanMoved.l0 k ll even di dk j L e (other++[mvPoly (65536*di) (65536*dk) p]) (ll.length:Int) (wrap64 ((n:Int)+1)):=by
 induction d with
 | zero =>
  intro m hm
  obtain rfl:m=p.length:=by omega
  rw [fleuronlaw19_ScanMoved.l1,if_neg (by omega),if_pos (by omega)];rfl
 | succ d ih =>
  intro m hm
  have hw:wrap64 ((m:Int)+1)=((m+1:Nat):Int):=by rw [wrap64_small (by omega) (by omega)];omega
  have hmod:Int.tmod ((m+1:Nat):Int) (p.length:Int)=(((m+1) % p.length:Nat):Int):=by rw [Int.tmod_eq_emod_of_nonneg (by omega)];simp
  have hlt:=Nat.mod_lt (m+1) (show 0<p.length by omega)
  have hnx:rd_T47 p (((m+1) % p.length:Nat):Int)=nxt p m:=rfl
  have hb:=isPt_bounds (hp _ (nxt_mem p m (by omega)))
  have i2:=ih (m+1) (by omega)
  rw [List.range_succ,List.map_append,List.map_cons,List.map_nil] at i2
  rw [show k+(d+1)+1=(k+d+1)+1 by omega,fleuronlaw19_ScanMoved.l1,if_pos (by omega),if_neg (by omega),hw,hmod,if_pos (by omega),if_pos (by omega),if_pos (by simp;omega),hnx,wrap64_small (n:=di*65536) (by omega) (by omega),wrap64_small (n:=dk*65536) (by omega) (by omega),wrap64_small (by omega) (by omega),wrap64_small (by omega) (by omega),Int.mul_comm di,Int.mul_comm dk]
  exact i2
def cost3:List (List S47)→Nat
 | []=>0
 | l::ls=>l.length+2+cost3 ls
theorem all_go (hal : ∀ l∈ll,(∀ x∈l,isPt x=true)∧l.length≤1000) (hll:ll.length≤1000) (k:Nat) (d:Nat) : ∀ n:Nat,n+d=ll.length →
  fleuronlaw19_ScanMoved.l0 (k+cost3 (ll.reverse.drop n)) ll even di dk j L e ((ll.reverse.take n).map (mvPoly (65536*di) (65536*dk))) (ll.length:Int) (n:Int)=fleuronlaw19_ScanMoved.l0 k ll even di dk j L e (mvAll (65536*di) (65536*dk) ll) (ll.length:Int) (ll.length:Int):=by
 induction d with
 | zero =>
  intro n hn
  obtain rfl:n=ll.length:=by omega
  have e1:ll.reverse.drop ll.length=[]:=List.drop_eq_nil_of_le (by simp)
  have e2:ll.reverse.take ll.length=ll.reverse:=List.take_of_length_le (by simp)
  rw [e1,e2,cost3,Nat.add_zero,← mvAll]
 | succ d ih =>
  intro n hn
  have hlt:n<ll.reverse.length:=by simp;omega
  have i2:=ih (n+1) (by omega)
  have hlt2:ll.length-1-n<ll.length:=by omega
  have q1:(n:Int)<(ll.length:Int):=by omega
  have q2:(0:Int)≤((ll.length-1-n:Nat):Int):=by omega
  have q3:((ll.length-1-n:Nat):Int)<(ll.length:Int):=by omega
  have fe : ∀ A B:Nat,k+(A+2+B)=(k+B+A+1)+1:=fun A B=>by omega
  have ht:((ll.reverse.take n).map (mvPoly (65536*di) (65536*dk))).length≤1000:=by simp;omega
  have hrd:rd_L2 ll ((ll.length-1-n:Nat):Int)=ll.reverse[n]:=by
   rw [List.getElem_reverse]
   simp [rd_L2,List.getD_eq_getElem?_getD,List.getElem?_eq_getElem hlt2]
  have hm:=hal ll.reverse[n] (List.mem_reverse.mp (List.getElem_mem hlt))
  rw [List.take_succ_eq_append_getElem hlt,List.map_append,List.map_cons,List.map_nil] at i2
  rw [List.drop_eq_getElem_cons hlt,cost3]
  have hp:=poly_go ll even di dk j hdi hdi' hdk hdk' L e ll.reverse[n] hm.1 hm.2 ((ll.reverse.take n).map (mvPoly (65536*di) (65536*dk))) ht n (k+cost3 (ll.reverse.drop (n+1))) ll.reverse[n].length 0 (Nat.zero_add _)
  have hw1:wrap64 ((ll.length:Int)-1)=((ll.length-1:Nat):Int):=by rw [wrap64_small (by omega) (by omega)];omega
  have hw2:wrap64 (((ll.length-1:Nat):Int)-(n:Int))=((ll.length-1-n:Nat):Int):=by rw [wrap64_small (by omega) (by omega)];omega
  have hw3:wrap64 ((n:Int)+1)=((n+1:Nat):Int):=by rw [wrap64_small (by omega) (by omega)];omega
  rw [fe,fleuronlaw19_ScanMoved.l0,if_pos q1,hw1,hw2,if_pos q2,if_pos q3,hrd]
  rw [hw3] at hp
  exact hp.trans i2
omit hdk hdk' in
theorem cmp_go (M:List Sp) (hL:L.length≤1000) (hM:M.length≤1000) (hh : ∀ n:Nat,n<40→hasS L (n:Int)=hasS M ((n:Int)+di)) (d:Nat) : ∀ (k n:Nat),n+d=40→d+2000<k→fleuronlaw19_ScanMoved.l2 k di L M 0 (n:Int)=some true:=by
 induction d with
 | zero =>
  intro k n hn hk
  obtain ⟨k,rfl⟩ : ∃ m,k=m+1:=⟨k-1,by omega⟩
  rw [fleuronlaw19_ScanMoved.l2,if_neg (by omega),if_pos rfl,refAll_is [] (by simp) k (by simp;omega)];rfl
 | succ d ih =>
  intro k n hn hk
  obtain ⟨k,rfl⟩ : ∃ m,k=m+1:=⟨k-1,by omega⟩
  have hw:wrap64 ((n:Int)+1)=((n+1:Nat):Int):=by rw [wrap64_small (by omega) (by omega)];omega
  rw [fleuronlaw19_ScanMoved.l2,if_pos (by omega),in_is L (by omega) _ k (by omega),wrap64_small (n:=(n:Int)+di) (by omega) (by omega),in_is M (by omega) _ k (by omega)]
  simp only [Option.bind_some]
  rw [hh n (by omega),if_neg (by simp),hw]
  exact ih k (n+1) (by omega) (by omega)
end
theorem u64_mod (a m:Int) (hm:0<m) (hm':m≤100):0≤wrap64 (Int.tmod (IntKind.u64.wrap a) m)∧wrap64 (Int.tmod (IntKind.u64.wrap a) m)≤m-1:=by
 have h0:0≤IntKind.u64.wrap a:=by
  have:IntKind.u64.wrap a=a % 18446744073709551616:=by simp [IntKind.wrap,IntKind.signed,IntKind.bits]
  rw [this];omega
 have h1:=Int.tmod_nonneg m h0
 have h2:=Int.tmod_lt_of_pos (IntKind.u64.wrap a) hm
 rw [wrap64_small (by omega) (by omega)]
 omega
theorem ScanMoved:fleuronlaw19_ScanMoved.Pure:=by
 intro ll even at_ hl _ _
 have h2:ll.length≤100000000000000:=by have:=hl.1.1;omega
 have h1 : ∀ l∈ll,l.length≤100000000000000:=fun l hm=>by have:=(hl.2 l hm).1.1;omega
 obtain ⟨k,hk⟩ : ∃ k:Nat,ll.length+200000000≤k:=⟨_,Nat.le_refl _⟩
 refine ⟨k+1+cost3 (ll.reverse.drop 0)+1,?_⟩
 unfold fleuronlaw19_ScanMoved.f
 have aw:fleuronlaw19_ScanMoved.j0 (k+1+cost3 (ll.reverse.drop 0)+1) ll even true at_.1 at_.2.1 at_.2.2=some true:=by rw [fleuronlaw19_ScanMoved.j0,if_pos rfl];rfl
 rw [few_is 200 (by omega) (by omega) ll h1 h2 _ (by omega)]
 by_cases hf:(sumLen ll:Int)+(ll.length:Int)≤200
 case neg=>rw [decide_eq_false hf];simpa using aw
 rw [decide_eq_true hf]
 simp only [Option.bind_some,if_true]
 rw [some_is ll (by omega) _ (by omega)]
 simp only [Option.bind_some]
 cases hv:vallB ll with
 | false=>simpa using aw
 | true =>
  obtain ⟨v1,v2,v3⟩:=vall_facts hv
  obtain ⟨a0,a1⟩:=u64_mod at_.1 20 (by omega) (by omega)
  obtain ⟨b0,b1⟩:=u64_mod at_.2.1 20 (by omega) (by omega)
  obtain ⟨c0,c1⟩:=u64_mod at_.2.2 40 (by omega) (by omega)
  rw [Bool.not_true,fleuronlaw19_ScanMoved.j0,if_neg (by simp)]
  generalize wrap64 (Int.tmod (IntKind.u64.wrap at_.1) 20)=di at *
  generalize wrap64 (Int.tmod (IntKind.u64.wrap at_.2.1) 20)=dk at *
  generalize wrap64 (Int.tmod (IntKind.u64.wrap at_.2.2) 40)=j at *
  have hr:rowOk 40 j=true:=rowOk_iff.mpr (by omega)
  have hr2:rowOk 60 (j+dk)=true:=rowOk_iff.mpr (by omega)
  have hR:rowR ll even 40 j=((rowR ll even 40 j).1,0):=by unfold rowR;rw [hv,hr];rfl
  rw [row_is ll (by omega) even 40 j _ (by omega),hR]
  simp only [Option.bind_some]
  have hlen:=rowR_len ll even 40 j
  have hal : ∀ l∈ll,∀ x∈l,isPt x=true:=fun l hm x hx=>(okPoly_facts (v1 l hm)).2.2 x hx
  have g:=all_go ll even di dk j a0 (by omega) b0 (by omega) (rowR ll even 40 j).1 0 (fun l hm=>⟨hal l hm,by have:=sumLen_mem hm;omega⟩) (by omega) (k+1) ll.length 0 (by omega)
  refine Eq.trans g ?_
  have e0 : ∀ b:Bool,b=false→fleuronlaw19_ScanMoved.j3 k even di dk j (rowR ll even 40 j).1 (mvAll (65536*di) (65536*dk) ll) b=some true:=by
   intro b hb
   subst hb
   obtain ⟨k,rfl⟩ : ∃ m,k=m+1:=⟨k-1,by omega⟩
   have ho:sumLen (mvAll (65536*di) (65536*dk) ll)+(mvAll (65536*di) (65536*dk) ll).length≤1000000:=by
    have e1 : ∀ a b:List (List S47),sumLen (a++b)=sumLen a+sumLen b:=by
     intro a b
     induction a with
     | nil=>simp [sumLen]
     | cons x a ih=>rw [List.cons_append,sumLen,sumLen,ih];omega
    have e2 : ∀ a:List (List S47),sumLen a.reverse=sumLen a:=by
     intro a
     induction a with
     | nil=>rfl
     | cons x a ih=>rw [List.reverse_cons,e1,ih,sumLen,sumLen,sumLen];omega
    have e3 : ∀ a:List (List S47),sumLen (a.map (mvPoly (65536*di) (65536*dk)))=sumLen a:=by
     intro a
     induction a with
     | nil=>rfl
     | cons x a ih=>rw [List.map_cons,sumLen,sumLen,ih,mvPoly_len]
    have e4:(mvAll (65536*di) (65536*dk) ll).length=ll.length:=by simp [mvAll]
    have e5:sumLen (mvAll (65536*di) (65536*dk) ll)=sumLen ll:=by unfold mvAll;rw [e3,e2]
    omega
   rw [fleuronlaw19_ScanMoved.j3,if_neg (by simp),some_is _ ho k (by omega)]
   simp only [Option.bind_some]
   cases hv2:vallB (mvAll (65536*di) (65536*dk) ll) with
   | false=>simp;rfl
   | true =>
    have hR2:rowR (mvAll (65536*di) (65536*dk) ll) even 60 (j+dk)=((rowR (mvAll (65536*di) (65536*dk) ll) even 60 (j+dk)).1,0):=by
     have : ∀ M:List (List S47),vallB M=true→rowR M even 60 (j+dk)=((rowR M even 60 (j+dk)).1,0):=by
      intro M hM;unfold rowR;rw [hM,hr2];rfl
     exact this _ hv2
    rw [if_pos rfl,wrap64_small (n:=j+dk) (by omega) (by omega),row_is _ ho even 60 (j+dk) k (by omega),hR2]
    simp only [Option.bind_some]
    have hlen2:=rowR_len (mvAll (65536*di) (65536*dk) ll) even 60 (j+dk)
    refine cmp_go di a0 (by omega) _ _ (by omega) (by omega) (fun n hn=>?_) 40 k 0 (by omega) (by omega)
    rw [row_has ll even 40 j hv hr n (by omega)]
    have hh:=row_has (mvAll (65536*di) (65536*dk) ll) even 60 (j+dk) hv2 hr2 (n+di.toNat) (by omega)
    rw [show ((n+di.toNat:Nat):Int)=(n:Int)+di by omega] at hh
    rw [hh,← inside_mv (smp (n:Int) j) (65536*di) (65536*dk) even ll]
    congr 1
    unfold mvP smp
    simp only
    rw [show 65536*(n:Int)+32768+65536*di=65536*((n:Int)+di)+32768 by omega,show 65536*j+32768+65536*dk=65536*(j+dk)+32768 by omega]
  obtain ⟨q1,q2⟩:=rowsOf_all ll hal ll.length (Nat.le_refl _)
  have hno:(rowsA ll ll.length).2<0∨j<(rowsA ll ll.length).1∨(rowsA ll ll.length).2<j→((rowR ll even 40 j).1.length:Int)=0:=by
   intro h
   rw [row_no ll even 40 j ?_];rfl
   rw [Bool.eq_false_iff]
   intro hh
   have:=q1 j c0 (by omega) hh
   omega
  rw [fleuronlaw19_ScanMoved.l0,if_neg (by omega),if_pos rfl,rows_is ll (by omega) k (by omega)]
  simp only [Option.bind_some]
  unfold rowsR
  rw [hv,if_pos rfl]
  by_cases hs:(rowsA ll ll.length).2<0
  ·rw [if_pos hs]
   have h0:=hno (Or.inl hs)
   simp only [if_true]
   rw [if_neg (by omega),if_neg (by decide)]
   exact e0 _ rfl
  ·rw [if_neg hs]
   rw [if_neg (by simp),if_pos rfl]
   by_cases h3:j<(rowsA ll ll.length).1
   ·have h0:=hno (Or.inr (Or.inl h3))
    rw [if_pos h3,if_neg (by omega)]
    exact e0 _ rfl
   ·rw [if_neg h3]
    by_cases h4:j>(rowsA ll ll.length).2
    ·have h0:=hno (Or.inr (Or.inr h4))
     rw [if_pos h4,if_neg (by omega)]
     exact e0 _ rfl
    ·rw [if_neg h4]
     exact e0 _ rfl
end Go.Proofs.YtckjlckhjcbddaaGreat.Pure
