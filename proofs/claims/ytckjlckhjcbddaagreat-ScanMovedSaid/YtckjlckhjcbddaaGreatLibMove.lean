import Derived.Test.YtckjlckhjcbddaaGreatLibRows
import Derived.Test.YtckjlckhjcbddaaGreatPG3x10
import Derived.Test.YtckjlckhjcbddaaGreatPG3x21
import Derived.Test.YtckjlckhjcbddaaGreatPG3x5
set_option linter.unusedVariables false
set_option linter.unusedSectionVars false
set_option linter.unusedSimpArgs false
namespace Go.Proofs.YtckjlckhjcbddaaGreat.PG3
open Go.RowKit Go.Proofs.YtckjlckhjcbddaaGreatW.PrintWords Go.Proofs.YtckjlckhjcbddaaGreatW.PrintLast Go.Proofs.YtckjlckhjcbddaaGreatW.PrintMore
def sumTo (g:Nat→Int):Nat→Int
 | 0=>0
 | i+1=>sumTo g i+g i
theorem sumTo_congr {f g:Nat→Int} : ∀ (n:Nat),(∀ i,i<n→f i=g i)→sumTo f n=sumTo g n
 | 0,_=>rfl
 | n+1,h=>by
  simp only [sumTo]
  rw [sumTo_congr n (fun i hi=>h i (by omega)),h n (by omega)]
theorem sumTo_add (g:Nat→Int) (a:Nat) : ∀ b,sumTo g (a+b)=sumTo g a+sumTo (fun i=>g (a+i)) b
 | 0=>by simp [sumTo]
 | b+1=>by
  rw [← Nat.add_assoc]
  simp only [sumTo]
  rw [sumTo_add g a b]
  omega
theorem sumTo_rot (g:Nat→Int) (n k:Nat) (hk:k≤n):sumTo (fun i=>g ((i+k) % n)) n=sumTo g n:=by
 have h:=sumTo_add (fun i=>g ((i+k) % n)) (n-k) k
 rw [show n-k+k=n by omega] at h
 rw [h,sumTo_congr (f:=fun i=>g ((i+k) % n)) (g:=fun i=>g (k+i)) (n-k) (fun i hi=>by rw [Nat.mod_eq_of_lt (by omega),Nat.add_comm]),
  sumTo_congr (f:=fun i=>g ((n-k+i+k) % n)) (g:=g) k (fun i hi=>by rw [show n-k+i+k=i+n by omega,Nat.add_mod_right,Nat.mod_eq_of_lt (by omega)])]
 have h2:=sumTo_add g k (n-k)
 rw [show k+(n-k)=n by omega] at h2
 rw [h2]
 omega
theorem csum_sum (l:List S47) (p:S47) (s:Int) (o:Int→Int) : ∀ n,csum l p s o n=sumTo (fun i=>ctermB (rd_T47 l (i:Int)) (nxt l i) p s o) n
 | 0=>rfl
 | n+1=>by simp only [csum,sumTo];rw [csum_sum l p s o n]
def mvP (dx dy:Int) (x:S47):S47:=⟨x.f0+dx,x.f1+dy⟩
def mvPoly (dx dy:Int) (l:List S47):List S47:=(List.range l.length).map fun m=>mvP dx dy (nxt l m)
theorem mvPoly_len (dx dy:Int) (l:List S47):(mvPoly dx dy l).length=l.length:=by simp [mvPoly]
theorem mvPoly_at (dx dy:Int) (l:List S47) (m:Nat) (h:m<l.length):rd_T47 (mvPoly dx dy l) (m:Int)=mvP dx dy (nxt l m):=by
 simp [mvPoly,rd_T47,List.getD_eq_getElem?_getD,List.getElem?_range h]
theorem term_mv (a b p:S47) (dx dy side:Int) (o:Int→Int):ctermB (mvP dx dy a) (mvP dx dy b) (mvP dx dy p) side o=ctermB a b p side o:=by
 have hw:wayB (mvP dx dy a) (mvP dx dy b) (mvP dx dy p).f1=wayB a b p.f1:=by
  unfold wayB mvP
  have e1:(a.f1+dy≤p.f1+dy∧p.f1+dy<b.f1+dy)↔(a.f1≤p.f1∧p.f1<b.f1):=by omega
  have e2:(b.f1+dy≤p.f1+dy∧p.f1+dy<a.f1+dy)↔(b.f1≤p.f1∧p.f1<a.f1):=by omega
  simp only [e1,e2]
 have hc:crossB (mvP dx dy a) (mvP dx dy b) (mvP dx dy p)=crossB a b p:=by
  unfold crossB mvP
  simp only
  rw [show b.f0+dx-(a.f0+dx)=b.f0-a.f0 by omega,show p.f1+dy-(a.f1+dy)=p.f1-a.f1 by omega,show b.f1+dy-(a.f1+dy)=b.f1-a.f1 by omega,show p.f0+dx-(a.f0+dx)=p.f0-a.f0 by omega]
 unfold ctermB sideB
 rw [hw,hc]
theorem csum_mv (l:List S47) (p:S47) (dx dy:Int) (o:Int→Int):csum (mvPoly dx dy l) (mvP dx dy p) 1 o (mvPoly dx dy l).length=csum l p 1 o l.length:=by
 rw [csum_sum,csum_sum,mvPoly_len]
 by_cases h0:l.length=0
 ·rw [h0];rfl
 rw [← sumTo_rot (fun i=>ctermB (rd_T47 l (i:Int)) (nxt l i) p 1 o) l.length 1 (by omega)]
 refine sumTo_congr _ (fun m hm=>?_)
 have hlt:=Nat.mod_lt (m+1) (show 0<l.length by omega)
 have e1:=mvPoly_at dx dy l m hm
 have e2:nxt (mvPoly dx dy l) m=mvP dx dy (nxt l ((m+1) % l.length)):=by
  unfold nxt
  rw [mvPoly_len]
  exact mvPoly_at dx dy l _ hlt
 rw [e1,e2,term_mv];rfl
theorem allSum_app (p:S47) (o:Int→Int) (a b:List (List S47)):allSum p o (a++b)=allSum p o a+allSum p o b:=by
 induction a with
 | nil=>simp [allSum]
 | cons x a ih=>rw [List.cons_append,allSum,allSum,ih];omega
theorem allSum_rev (p:S47) (o:Int→Int) : ∀ ll:List (List S47),allSum p o ll.reverse=allSum p o ll
 | []=>rfl
 | l::ll=>by rw [List.reverse_cons,allSum_app,allSum_rev p o ll,allSum,allSum,allSum];omega
theorem allSum_mv (p:S47) (dx dy:Int) (o:Int→Int) : ∀ ll:List (List S47),allSum (mvP dx dy p) o (ll.map (mvPoly dx dy))=allSum p o ll
 | []=>rfl
 | l::ll=>by rw [List.map_cons,allSum,allSum,csum_mv,allSum_mv p dx dy o ll]
def mvAll (dx dy:Int) (ll:List (List S47)):List (List S47):=ll.reverse.map (mvPoly dx dy)
theorem inside_mv (p:S47) (dx dy:Int) (even:Bool) (ll:List (List S47)):insideB (mvAll dx dy ll) even (mvP dx dy p)=insideB ll even p:=by
 unfold insideB mvAll
 rw [allSum_mv,allSum_mv,allSum_rev,allSum_rev]
theorem phit_no (l:List S47) (j:Int) : ∀ m,phit l j m=false→∀ i,i<m→ehit (rd_T47 l (i:Int)) (nxt l i) j=false
 | 0,_,i,hi=>by omega
 | m+1,h,i,hi=>by
  simp only [phit,Bool.or_eq_false_iff] at h
  by_cases e:i=m
  ·subst e;exact h.2
  ·exact phit_no l j m h.1 i (by omega)
theorem csum_no (l:List S47) (x j:Int) (o:Int→Int) : ∀ m,phit l j m=false→csum l ⟨x,65536*j+32768⟩ 1 o m=0
 | 0,_=>rfl
 | m+1,h=>by
  have he:=phit_no l j (m+1) h m (by omega)
  simp only [phit,Bool.or_eq_false_iff] at h
  unfold ehit at he
  have hw:wayB (rd_T47 l (m:Int)) (nxt l m) (65536*j+32768)=0:=by simpa using he
  rw [csum,csum_no l x j o m h.1]
  unfold ctermB
  rw [if_pos hw];rfl
theorem ahit_no (ll:List (List S47)) (x j:Int) (o:Int→Int) : ∀ n,n≤ll.length→ahit ll j n=false→allSum ⟨x,65536*j+32768⟩ o (ll.take n)=0
 | 0,_,_=>rfl
 | n+1,hn,h=>by
  simp only [ahit,Bool.or_eq_false_iff] at h
  rw [allSum_take _ _ ll n (by omega),ahit_no ll x j o n (by omega) h.1,csum_no _ x j o _ h.2];rfl
theorem inside_no (ll:List (List S47)) (even:Bool) (x j:Int) (h:ahit ll j ll.length=false):insideB ll even ⟨x,65536*j+32768⟩=false:=by
 have e : ∀ o,allSum ⟨x,65536*j+32768⟩ o ll=0:=fun o=>by
  have:=ahit_no ll x j o ll.length (Nat.le_refl _) h
  rwa [List.take_length] at this
 unfold insideB
 rw [e,e]
 cases even <;> rfl
theorem spTo_no (bits:List Bool) (h : ∀ i:Nat,rdOf false bits (i:Int)=false) : ∀ i,spTo bits i=[]
 | 0=>rfl
 | i+1=>by rw [spTo,spTo_no bits h i,h i];rfl
theorem row_no (ll:List (List S47)) (even:Bool) (w j:Int) (h:ahit ll j ll.length=false):(rowR ll even w j).1=[]:=by
 unfold rowR
 split
 ·refine spTo_no _ (fun i=>?_) _
  unfold pixR rdOf
  rw [Int.toNat_natCast,List.getD_eq_getElem?_getD,List.getElem?_map]
  by_cases hi:i<w.toNat
  ·rw [List.getElem?_range hi]
   simp only [Option.map_some,Option.getD_some]
   exact inside_no ll even _ j h
  ·rw [List.getElem?_eq_none (by simpa using hi)];rfl
 ·rfl
theorem row_has (ll:List (List S47)) (even:Bool) (w j:Int) (hv:vallB ll=true) (hr:rowOk w j=true) (n:Nat) (hn:(n:Int)<w):hasS (rowR ll even w j).1 (n:Int)=insideB ll even (smp (n:Int) j):=by
 obtain ⟨r1,r2,r3,r4⟩:=rowOk_iff.mp hr
 unfold rowR
 rw [hv,hr]
 simp only [Bool.and_self,if_true]
 rw [spansB_has _ (by unfold pixR;simp;omega)]
 unfold bitsF rdOf pixR
 rw [Int.toNat_natCast,List.getD_eq_getElem?_getD,List.getElem?_map,List.getElem?_range (by omega)];rfl
theorem in_go (l:List Sp) (hl:l.length≤1000000) (x:Int) (d:Nat) : ∀ (k i:Nat),i≤l.length→l.length-i=d→d<k→fleuronlaw19_in.l0 k x l (l.length:Int) (i:Int)=some (hasS (l.drop i) x):=by
 induction d with
 | zero =>
  intro k i hi hd hk
  obtain ⟨k,rfl⟩ : ∃ m,k=m+1:=⟨k-1,by omega⟩
  rw [fleuronlaw19_in.l0,if_neg (by omega),List.drop_eq_nil_of_le (by omega)];rfl
 | succ d ih =>
  intro k i hi hd hk
  obtain ⟨k,rfl⟩ : ∃ m,k=m+1:=⟨k-1,by omega⟩
  have hw:wrap64 ((i:Int)+1)=((i+1:Nat):Int):=by rw [w64 (by omega) (by omega)];omega
  rw [fleuronlaw19_in.l0,if_pos (by omega),if_pos (by omega),if_pos (by omega),rdS l i (by omega),hw,ih k (i+1) (by omega) (by omega) (by omega),List.drop_eq_getElem_cons (show i<l.length by omega),hasS_cons]
  by_cases h1:x≥l[i].f0
  ·rw [if_pos h1,decide_eq_true (show l[i].f0≤x from h1)]
   by_cases h2:x<l[i].f1
   ·rw [if_pos h2,decide_eq_true h2];rfl
   ·rw [if_neg h2,decide_eq_false h2];simp
  ·rw [if_neg h1,decide_eq_false (show ¬ l[i].f0≤x from h1)];simp
theorem in_is (l:List Sp) (hl:l.length≤1000000) (x:Int) (k:Nat) (hk:l.length<k):fleuronlaw19_in.f k l x=some (hasS l x):=by
 have:=in_go l hl x l.length k 0 (by omega) (by omega) hk
 simpa [fleuronlaw19_in.f] using this
end Go.Proofs.YtckjlckhjcbddaaGreat.PG3
