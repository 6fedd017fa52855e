import Derived.Test.YtckjlckhjcbddaaGreatLibRefRow
import Derived.Test.YtckjlckhjcbddaaGreatPG3x12
import Derived.Test.YtckjlckhjcbddaaGreatPG3x25
set_option linter.unusedVariables false
set_option linter.unusedSectionVars false
set_option linter.unusedSimpArgs false
namespace Go.Proofs.YtckjlckhjcbddaaGreat.PG3
open Go.RowKit Go.Proofs.YtckjlckhjcbddaaGreatW.PrintWords Go.Proofs.YtckjlckhjcbddaaGreatW.PrintLast Go.Proofs.YtckjlckhjcbddaaGreatW.PrintMore
def ehit (a b:S47) (j:Int):Bool:=decide (wayB a b (65536*j+32768)≠0)
theorem ehit_iff (a b:S47) (j:Int):ehit a b j=true↔(a.f1≤65536*j+32768∧65536*j+32768<b.f1)∨(b.f1≤65536*j+32768∧65536*j+32768<a.f1):=by
 unfold ehit wayB
 rw [decide_eq_true_eq]
 by_cases h:a.f1≤65536*j+32768∧65536*j+32768<b.f1
 ·rw [if_pos h];simp [h]
 ·rw [if_neg h]
  by_cases h':b.f1≤65536*j+32768∧65536*j+32768<a.f1
  ·rw [if_pos h'];simp [h']
  ·rw [if_neg h'];simp [h,h']
theorem edge_rows (a b:S47) (ha:isPt a=true) (hb:isPt b=true):0≤rowFirst a b∧rowLast a b≤255∧∀ j:Int,0≤j→j≤255→(ehit a b j=true↔rowFirst a b≤j∧j≤rowLast a b):=by
 have ba:=isPt_bounds ha;have bb:=isPt_bounds hb
 unfold rowFirst rowLast
 have e1:mn a.f1 b.f1=min a.f1 b.f1:=by unfold mn;split <;> omega
 have e2:mx a.f1 b.f1=max a.f1 b.f1:=by unfold mx;split <;> omega
 rw [e1,e2,from_is (by omega) (by omega),from_is (by omega) (by omega),wrap64_small (n:=(max a.f1 b.f1+32767) / 65536-1) (by omega) (by omega)]
 have e3:mx ((min a.f1 b.f1+32767) / 65536) 0=max ((min a.f1 b.f1+32767) / 65536) 0:=by unfold mx;split <;> omega
 have e4:mn ((max a.f1 b.f1+32767) / 65536-1) 255=min ((max a.f1 b.f1+32767) / 65536-1) 255:=by unfold mn;split <;> omega
 rw [e3,e4]
 refine ⟨by omega,by omega,fun j h0 h1=>?_⟩
 rw [ehit_iff]
 omega
def RowsOf (s:Int×Int) (P:Int→Bool):Prop:=(∀ j,0≤j→j≤255→P j=true→s.1≤j∧j≤s.2)∧(s=(256,-1)∨(0≤s.1∧s.1≤s.2∧s.2≤255∧P s.1=true∧P s.2=true))
theorem rowsOf_step {s:Int×Int} {P:Int→Bool} (h:RowsOf s P) (a b:S47) (ha:isPt a=true) (hb:isPt b=true):RowsOf (rowsE s a b) (fun j=>P j || ehit a b j):=by
 obtain ⟨f0,l0,hit⟩:=edge_rows a b ha hb
 obtain ⟨h1,h2⟩:=h
 unfold rowsE
 generalize rowFirst a b=f at *
 generalize rowLast a b=l at *
 obtain ⟨s1,s2⟩:=s
 by_cases hfl:f≤l
 ·rw [if_pos hfl]
  have e1:mn s1 f=min s1 f:=by unfold mn;split <;> omega
  have e2:mx s2 l=max s2 l:=by unfold mx;split <;> omega
  simp only [e1,e2]
  refine ⟨fun j j0 j1 hj=>?_,Or.inr ?_⟩
  ·simp only [Bool.or_eq_true] at hj
   rcases hj with hj|hj
   ·have:=h1 j j0 j1 hj;simp only at this ⊢;omega
   ·have:=(hit j j0 j1).mp hj;simp only;omega
  ·have hf:=(hit f (by omega) (by omega)).mpr ⟨by omega,hfl⟩
   have hl:=(hit l (by omega) (by omega)).mpr ⟨hfl,by omega⟩
   rcases h2 with h2|⟨q0,q1,q2,q3,q4⟩
   ·simp only [Prod.mk.injEq] at h2
    obtain ⟨rfl,rfl⟩:=h2
    refine ⟨by simp only;omega,by simp only;omega,by simp only;omega,?_,?_⟩
    ·simp only;rw [show min (256:Int) f=f by omega,hf];simp
    ·simp only;rw [show max (-1:Int) l=l by omega,hl];simp
   ·simp only at q0 q1 q2 q3 q4
    refine ⟨by simp only;omega,by simp only;omega,by simp only;omega,?_,?_⟩
    ·simp only
     by_cases c:s1≤f
     ·rw [show min s1 f=s1 by omega,q3];simp
     ·rw [show min s1 f=f by omega,hf];simp
    ·simp only
     by_cases c:l≤s2
     ·rw [show max s2 l=s2 by omega,q4];simp
     ·rw [show max s2 l=l by omega,hl];simp
 ·rw [if_neg hfl]
  refine ⟨fun j j0 j1 hj=>?_,?_⟩
  ·simp only [Bool.or_eq_true] at hj
   rcases hj with hj|hj
   ·exact h1 j j0 j1 hj
   ·have:=(hit j j0 j1).mp hj;omega
  ·rcases h2 with h2|⟨q0,q1,q2,q3,q4⟩
   ·exact Or.inl h2
   ·exact Or.inr ⟨q0,q1,q2,by simp [q3],by simp [q4]⟩
def phit (l:List S47) (j:Int):Nat→Bool
 | 0=>false
 | m+1=>phit l j m || ehit (rd_T47 l (m:Int)) (nxt l m) j
def ahit (ll:List (List S47)) (j:Int):Nat→Bool
 | 0=>false
 | n+1=>ahit ll j n || phit (rd_L2 ll (n:Int)) j (rd_L2 ll (n:Int)).length
theorem rowsOf_poly (l:List S47) (hal : ∀ x∈l,isPt x=true) {s:Int×Int} {P:Int→Bool} (h:RowsOf s P) : ∀ m,m≤l.length→RowsOf (rowEds s l m) (fun j=>P j || phit l j m)
 | 0,_=>by simpa [rowEds,phit] using h
 | m+1,hm=>by
  have h1:=rowsOf_poly l hal h m (by omega)
  have h2:=rowsOf_step h1 (rd_T47 l (m:Int)) (nxt l m) (hal _ (rd_mem l m (by omega))) (hal _ (nxt_mem l m (by omega)))
  simp only [Bool.or_assoc] at h2
  exact h2
theorem rowsOf_all (ll:List (List S47)) (hal : ∀ l∈ll,∀ x∈l,isPt x=true) : ∀ n,n≤ll.length→RowsOf (rowsA ll n) (fun j=>ahit ll j n)
 | 0,_=>⟨fun j _ _ hj=>by simp [ahit] at hj,Or.inl rfl⟩
 | n+1,hn=>by
  have h1:=rowsOf_all ll hal n (by omega)
  exact rowsOf_poly (rd_L2 ll (n:Int)) (hal _ (rdL_mem ll n (by omega))) h1 _ (Nat.le_refl _)
def upd (s:Int×Int) (j:Int) (b:Bool):Int×Int:=if b=true then (if s.1<0 then (j,j) else (s.1,j)) else s
theorem upd_upd (s:Int×Int) (j:Int) (hj:0≤j) (b c:Bool):upd (upd s j b) j c=upd s j (b || c):=by
 unfold upd
 cases b <;> cases c <;> simp
 by_cases h:s.1<0
 ·rw [if_pos h,if_neg (show ¬ (j,j).1<0 from by simp only;omega)]
 ·rw [if_neg h,if_neg (show ¬ (s.1,j).1<0 from h)]
def phitFrom (l:List S47) (j:Int) (m d:Nat):Bool:=match d with
 | 0=>false
 | d+1=>ehit (rd_T47 l (m:Int)) (nxt l m) j || phitFrom l j (m+1) d
theorem phitFrom_is (l:List S47) (j:Int) (d:Nat) : ∀ m,(phit l j m || phitFrom l j m d)=phit l j (m+d):=by
 induction d with
 | zero=>intro m;simp [phitFrom]
 | succ d ih =>
  intro m
  rw [phitFrom,← Bool.or_assoc,show (phit l j m || ehit (rd_T47 l (m:Int)) (nxt l m) j)=phit l j (m+1) from rfl,ih (m+1),show m+1+d=m+(d+1) by omega]
section
variable (ll:List (List S47)) (hll:ll.length≤1000000) (hlen : ∀ l∈ll,l.length≤1000000) (j:Nat) (hj:j≤255)
include hll hlen hj
theorem edges_go (l:List S47) (hl:l.length≤1000000) (n:Nat) (k:Nat) (d:Nat) : ∀ (m:Nat) (s:Int×Int),m+d=l.length →
  fleuronref19_Rows.l2 (k+2*d+1) ll (j:Int) (65536*(j:Int)+32768) l (j:Int) ll (ll.length:Int) (n:Int) l (l.length:Int) (m:Int) s.1 s.2=fleuronref19_Rows.l1 k ll (j:Int) (65536*(j:Int)+32768) (j:Int) ll (ll.length:Int) (wrap64 ((n:Int)+1)) (upd s (j:Int) (phitFrom l (j:Int) m d)).1 (upd s (j:Int) (phitFrom l (j:Int) m d)).2:=by
 induction d with
 | zero =>
  intro m s hm
  rw [fleuronref19_Rows.l2,if_neg (by omega)]
  simp [phitFrom,upd]
 | succ d ih =>
  intro m s hm
  have hw:wrap64 ((m:Int)+1)=((m+1:Nat):Int):=by rw [wrap64_small (by omega) (by omega)];omega
  have hmod:Int.tmod ((m+1:Nat):Int) (l.length:Int)=(((m+1) % l.length:Nat):Int):=by rw [Int.tmod_eq_emod_of_nonneg (by omega)];simp
  have hlt:=Nat.mod_lt (m+1) (show 0<l.length by omega)
  have hnx:rd_T47 l (((m+1) % l.length:Nat):Int)=nxt l m:=rfl
  have i2:=ih (m+1) (upd s (j:Int) (ehit (rd_T47 l (m:Int)) (nxt l m) (j:Int))) (by omega)
  rw [upd_upd _ _ (by omega)] at i2
  have jj : ∀ b:Bool,fleuronref19_Rows.j3 (k+2*d+1+1) ll (j:Int) (65536*(j:Int)+32768) l (j:Int) ll (ll.length:Int) (n:Int) l (l.length:Int) (m:Int) b s.1 s.2=fleuronref19_Rows.l2 (k+2*d+1) ll (j:Int) (65536*(j:Int)+32768) l (j:Int) ll (ll.length:Int) (n:Int) l (l.length:Int) ((m+1:Nat):Int) (upd s (j:Int) b).1 (upd s (j:Int) b).2:=by
   intro b
   rw [fleuronref19_Rows.j3,hw]
   unfold upd
   cases b
   ·simp
   ·simp only [if_true]
    by_cases h:s.1<0
    ·rw [if_pos h,if_pos h]
    ·rw [if_neg h,if_neg h]
  rw [show k+2*(d+1)+1=(k+2*d+1+1)+1 by omega,fleuronref19_Rows.l2,if_pos (by omega),if_pos (by omega),if_pos (by omega),if_neg (by omega),hw,hmod,if_pos (by omega),if_pos (by omega),hnx]
  have he:=ehit_iff (rd_T47 l (m:Int)) (nxt l m) (j:Int)
  rw [phitFrom]
  generalize rd_T47 l (m:Int)=a at *
  generalize nxt l m=b at *
  rw [← i2]
  by_cases h1:a.f1≤65536*(j:Int)+32768
  ·rw [if_pos h1]
   by_cases h2:65536*(j:Int)+32768<b.f1
   ·rw [if_pos h2,jj,he.mpr (Or.inl ⟨h1,h2⟩)]
   ·rw [if_neg h2]
    have hf:ehit a b (j:Int)=false:=by
     rw [Bool.eq_false_iff];intro h;have:=he.mp h;omega
    by_cases h3:b.f1≤65536*(j:Int)+32768
    ·rw [if_pos h3,decide_eq_false (show ¬ 65536*(j:Int)+32768<a.f1 by omega),jj,hf]
    ·rw [if_neg h3,jj,hf]
  ·rw [if_neg h1]
   by_cases h3:b.f1≤65536*(j:Int)+32768
   ·rw [if_pos h3,decide_eq_true (show 65536*(j:Int)+32768<a.f1 by omega),jj,he.mpr (Or.inr ⟨h3,by omega⟩)]
   ·have hf:ehit a b (j:Int)=false:=by
     rw [Bool.eq_false_iff];intro h;have:=he.mp h;omega
    rw [if_neg h3,jj,hf]
def cost:List (List S47)→Nat
 | []=>1
 | l::ls=>2*l.length+2+cost ls
omit hll hlen hj in
theorem cost_is : ∀ ls:List (List S47),cost ls=2*sumLen ls+2*ls.length+1
 | []=>rfl
 | l::ls=>by simp only [cost,sumLen,List.length_cons,cost_is ls];omega
theorem polys_go (k:Nat) (d:Nat) : ∀ (n:Nat) (s:Int×Int),n+d=ll.length →
  fleuronref19_Rows.l1 (k+cost (ll.drop n)) ll (j:Int) (65536*(j:Int)+32768) (j:Int) ll (ll.length:Int) (n:Int) (upd s (j:Int) (ahit ll (j:Int) n)).1 (upd s (j:Int) (ahit ll (j:Int) n)).2=fleuronref19_Rows.l0 k ll ((j+1:Nat):Int) (upd s (j:Int) (ahit ll (j:Int) ll.length)).1 (upd s (j:Int) (ahit ll (j:Int) ll.length)).2:=by
 induction d with
 | zero =>
  intro n s hn
  obtain rfl:n=ll.length:=by omega
  rw [List.drop_length]
  show fleuronref19_Rows.l1 (k+1) _ _ _ _ _ _ _ _ _=_
  rw [fleuronref19_Rows.l1,if_neg (by omega),wrap64_small (n:=(j:Int)+1) (by omega) (by omega)];rfl
 | succ d ih =>
  intro n s hn
  have hm:=rdL_mem ll n (by omega)
  have hw:wrap64 ((n:Int)+1)=((n+1:Nat):Int):=by rw [wrap64_small (by omega) (by omega)];omega
  have i2:=ih (n+1) s (by omega)
  rw [rdL_drop ll n (by omega),cost,show k+(2*(rd_L2 ll (n:Int)).length+2+cost (ll.drop (n+1)))=(k+cost (ll.drop (n+1))+2*(rd_L2 ll (n:Int)).length+1)+1 by omega,fleuronref19_Rows.l1,if_pos (by omega),if_pos (by omega),if_pos (by omega)]
  have e:=edges_go ll hll hlen j hj (rd_L2 ll (n:Int)) (hlen _ hm) n (k+cost (ll.drop (n+1))) (rd_L2 ll (n:Int)).length 0 (upd s (j:Int) (ahit ll (j:Int) n)) (by omega)
  have ep:=phitFrom_is (rd_L2 ll (n:Int)) (j:Int) (rd_L2 ll (n:Int)).length 0
  rw [show phit (rd_L2 ll (n:Int)) (j:Int) 0=false from rfl,Bool.false_or,Nat.zero_add] at ep
  rw [upd_upd _ _ (by omega),ep,hw] at e
  exact e.trans i2
end
def FirstLast (s:Int×Int) (P:Int→Bool) (J:Int):Prop:=(s.1<0∧∀ j,0≤j→j<J→P j=false)∨(0≤s.1∧s.1≤s.2∧s.2<J∧P s.1=true∧P s.2=true∧∀ j,0≤j→j<J→P j=true→s.1≤j∧j≤s.2)
theorem fl_step {s:Int×Int} {P:Int→Bool} {J:Int} (hJ:0≤J) (h:FirstLast s P J):FirstLast (upd s J (P J)) P (J+1):=by
 unfold upd
 cases hp:P J with
 | false =>
  simp only [Bool.false_eq_true,if_false]
  rcases h with ⟨h1,h2⟩|⟨h1,h2,h3,h4,h5,h6⟩
  ·refine Or.inl ⟨h1,fun j j0 j1=>?_⟩
   by_cases e:j=J
   ·rw [e];exact hp
   ·exact h2 j j0 (by omega)
  ·refine Or.inr ⟨h1,h2,by omega,h4,h5,fun j j0 j1 hj=>?_⟩
   by_cases e:j=J
   ·rw [e,hp] at hj;cases hj
   ·exact h6 j j0 (by omega) hj
 | true =>
  simp only [if_true]
  rcases h with ⟨h1,h2⟩|⟨h1,h2,h3,h4,h5,h6⟩
  ·rw [if_pos h1]
   refine Or.inr ⟨hJ,Int.le_refl _,by show J<J+1;omega,hp,hp,fun j j0 j1 hj=>?_⟩
   by_cases e:j=J
   ·simp only;omega
   ·have:=h2 j j0 (by omega);rw [this] at hj;cases hj
  ·rw [if_neg (by omega)]
   refine Or.inr ⟨h1,by show s.1≤J;omega,by show J<J+1;omega,h4,hp,fun j j0 j1 hj=>?_⟩
   by_cases e:j=J
   ·simp only;omega
   ·have:=h6 j j0 (by omega) hj;simp only;omega
theorem rows_go (ll:List (List S47)) (hll:ll.length≤1000000) (hlen : ∀ l∈ll,l.length≤1000000) (d:Nat) : ∀ (k J:Nat) (s:Int×Int),J+d=256→d*(cost ll+1)<k→FirstLast s (fun j=>ahit ll j ll.length) (J:Int) →
  ∃ s',FirstLast s' (fun j=>ahit ll j ll.length) 256∧fleuronref19_Rows.l0 k ll (J:Int) s.1 s.2=if s'.1<0 then some (0,0,4) else some (s'.1,s'.2,0):=by
 induction d with
 | zero =>
  intro k J s hJ hk h
  obtain ⟨k,rfl⟩ : ∃ m,k=m+1:=⟨k-1,by omega⟩
  obtain rfl:J=256:=by omega
  exact ⟨s,h,by rw [fleuronref19_Rows.l0,if_neg (by omega)]⟩
 | succ d ih =>
  intro k J s hJ hk h
  rw [Nat.succ_mul] at hk
  obtain ⟨k2,rfl⟩ : ∃ m,k=(m+cost ll)+1:=⟨k-cost ll-1,by omega⟩
  have hp:=polys_go ll hll hlen J (by omega) k2 ll.length 0 s (by omega)
  rw [List.drop_zero] at hp
  obtain ⟨s',h1,h2⟩:=ih k2 (J+1) (upd s (J:Int) (ahit ll (J:Int) ll.length)) (by omega) (by omega) (fl_step (by omega) h)
  refine ⟨s',h1,?_⟩
  rw [fleuronref19_Rows.l0,if_pos (by omega),smp_is (by omega) (by omega) (by omega) (by omega)]
  simp only [Option.bind_some]
  rw [← h2,← hp]
  rfl
def rowsR (ll:List (List S47)):Int×Int×Int:=if vallB ll then (if (rowsA ll ll.length).2<0 then (0,0,4) else ((rowsA ll ll.length).1,(rowsA ll ll.length).2,0)) else (0,0,2)
theorem rows_is (ll:List (List S47)) (hs:sumLen ll+ll.length≤1000000) (k:Nat) (hk:3000000<k):scan_Rows.f k ll=some (rowsR ll):=by
 unfold scan_Rows.f rowsR
 rw [validAll_is ll hs k hk]
 simp only [Option.bind_some]
 cases hv:vallB ll with
 | false=>simp
 | true =>
  obtain ⟨v1,v2,v3⟩:=vall_facts hv
  rw [if_pos rfl,if_pos ⟨by omega,fun l hl=>by have:=sumLen_mem hl;omega⟩,if_pos rfl]
  split <;> rfl
theorem refRows_is (ll:List (List S47)) (hs:sumLen ll+ll.length≤100000) (k:Nat) (hk:100000000<k):fleuronref19_Rows.f k ll=some (rowsR ll):=by
 unfold fleuronref19_Rows.f rowsR
 rw [some_is ll (by omega) k (by omega)]
 simp only [Option.bind_some]
 cases hv:vallB ll with
 | false=>simp
 | true =>
  obtain ⟨v1,v2,v3⟩:=vall_facts hv
  have hc:=cost_is ll
  obtain ⟨s',f1,f2⟩:=rows_go ll (by omega) (fun l hl=>by have:=sumLen_mem hl;omega) 256 k 0 (-1,-1) (by omega) (by omega) (Or.inl ⟨by simp,fun j j0 j1=>by omega⟩)
  obtain ⟨g1,g2⟩:=rowsOf_all ll (fun l hl x hx=>(okPoly_facts (v1 l hl)).2.2 x hx) ll.length (Nat.le_refl _)
  rw [if_pos rfl,if_pos rfl]
  refine f2.trans ?_
  generalize rowsA ll ll.length=s at *
  obtain ⟨a,b⟩:=s
  obtain ⟨c,d⟩:=s'
  simp only at *
  rcases f1 with ⟨p1,p2⟩|⟨p1,p2,p3,p4,p5,p6⟩
  ·rw [if_pos p1]
   rcases g2 with g2|⟨q1,q2,q3,q4,q5⟩
   ·simp only [Prod.mk.injEq] at g2
    rw [if_pos (by omega)]
   ·exact absurd ((p2 a q1 (by omega)).symm.trans q4) (by simp)
  ·rw [if_neg (by omega)]
   rcases g2 with g2|⟨q1,q2,q3,q4,q5⟩
   ·simp only [Prod.mk.injEq] at g2
    have:=g1 c p1 (by omega) p4;omega
   ·have r1:=g1 c p1 (by omega) p4
    have r2:=g1 d (by omega) (by omega) p5
    have r3:=p6 a q1 (by omega) q4
    have r4:=p6 b (by omega) (by omega) q5
    rw [if_neg (by omega)]
    obtain rfl:a=c:=by omega
    obtain rfl:b=d:=by omega
    rfl
end Go.Proofs.YtckjlckhjcbddaaGreat.PG3
