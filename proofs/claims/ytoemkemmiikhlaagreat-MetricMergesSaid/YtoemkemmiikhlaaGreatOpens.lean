import Derived.Test.YtoemkemmiikhlaaGreatVMore
import Derived.Deep.Slices
import Derived.OpenShut
import Derived.ChangeArms
import Derived.RowKit
namespace Go.Proofs.YtoemkemmiikhlaaGreatW.Row
open Go.RowKit Go.ChangeShapes Go.WideShapes Go.Proofs.YtoemkemmiikhlaaGreatW.PrintWords Go.Proofs.YtoemkemmiikhlaaGreatW.PrintLast
def Opens {α:Type} (P:Program) (d:Kd α) (t:TypeId) (good:α→Prop):Prop :=
  ∀ {H : Type} {enc : TypeId × Value → H} {w : World} {spare : Nat → Bool} {held : Bool} {fuel : Nat} {cs : List Value} {x : DataW H × List MemPlace},
    DataW.trod enc P w 0 spare held fuel t cs=some x→(∀ n∈x.1.weights P t,n≤reachBytes)→∃ a:α,d.K w a cs∧good a
theorem opens_int {P:Program} {t:TypeId} {k:IntKind} (hu:P.underlying t=some (.int k)):Opens P (Kd.int k) t (fun n=>(Lit.int k n).wf=true):=by
  intro H enc w spare held fuel cs x h _
  obtain ⟨n,rfl,_,hw⟩:=DataW.trod_int hu h
  exact ⟨n,rfl,hw⟩
theorem opens_bool {P:Program} {t:TypeId} (hu:P.underlying t=some .bool):Opens P Kd.bool t (fun _=>True):=by
  intro H enc w spare held fuel cs x h _
  obtain ⟨b,rfl,_⟩:=DataW.trod_bool hu h
  exact ⟨b,rfl,trivial⟩
theorem weights_all {H:Type} {P:Program} {e:TypeId} (l:List (DataW H)) (n:Nat) (D:DataW H) (hD:D∈l) (hn:n∈D.weights P e):n∈DataW.weightsAll P e l:=by
  induction l with
  | nil=>cases hD
  | cons y ys ih =>
    rw [DataW.weightsAll,List.mem_append]
    rcases List.mem_cons.1 hD with rfl|h
    · exact Or.inl hn
    · exact Or.inr (ih h)
theorem weights_each {H : Type} {P : Program} : ∀ (ts : List TypeId) (ds : List (DataW H)) (j : Nat) (t : TypeId) (d : DataW H), ts[j]? = some t → ds[j]? = some d → ∀ n ∈ d.weights P t, n ∈ DataW.weightsEach P ts ds
  | [],_,j,_,_,ht,_,_,_=>by simp at ht
  | _::_,[],j,_,_,_,hd,_,_=>by simp at hd
  | t0::ts,d0::ds,0,t,d,ht,hd,n,hn=>by
    simp at ht hd
    subst ht;subst hd
    rw [DataW.weightsEach,List.mem_append]
    exact Or.inl hn
  | t0::ts,d0::ds,j+1,t,d,ht,hd,n,hn=>by
    rw [DataW.weightsEach,List.mem_append]
    exact Or.inr (weights_each ts ds j t d (by simpa using ht) (by simpa using hd) n hn)
theorem opens_slice {α : Type} {P : Program} {d : Kd α} {t e : TypeId} {good : α → Prop} {B : Nat} (z : α) (hu : P.underlying t = some (.slice e)) (hc : P.cellsOf e = d.sz) (hB : P.bytesOf e = B) (ho : Opens P d e good) :
    Opens P (Kd.slice e d) t (fun l=>(l.length*B≤140737488351232∧l.length≤9223372036854775807)∧∀ a∈l,good a):=by
  intro H enc w spare held fuel cs x h hw
  rcases Go.Deep.open_slice hu h with ⟨rfl,rfl⟩|⟨a,len,cap,m,n,D,Pl,rfl,_,hl,hm,hmm,rfl,hx⟩
  · exact ⟨[],⟨none,0,rfl,Nat.le_refl _,Kd.C_nil d w⟩,⟨by simp,by simp⟩,fun a ha=>by cases ha⟩
  · have hle:len≤m:=by rw [hmm];split <;> omega
    simp only [DataW.weights,hu,List.length_map,List.length_range,List.mem_cons,List.mem_append] at hw
    have hlen:(len+(m-len))*P.bytesOf e≤reachBytes:=hw _ (Or.inl rfl)
    have hin:Inhabited α:=⟨z⟩
    obtain ⟨F,hF⟩:=Go.Deep.choose_lt (α:=α) (p:=fun i y=>∃ c,c.length=d.sz∧d.K w y c∧(∀ j u,c[j]?=some u→w.cell? (a.add (i*d.sz+j))=some u)∧good y) (n:=len) (fun i hi=>by
      obtain ⟨cs',h1,h2⟩:=hx i (by omega)
      rw [hc] at h1
      obtain ⟨_,hcl,hcell⟩:=World.cells?_some h1
      obtain ⟨y,hy,hg⟩:=ho h2 (fun n hn=>hw n (Or.inr (Or.inl (weights_all _ n (D i) (List.mem_map.2 ⟨i,List.mem_range.2 hi,rfl⟩) hn))))
      refine ⟨y,cs',hcl,hy,fun j u hj=>?_,hg⟩
      obtain ⟨hj1,_⟩:=List.getElem?_eq_some_iff.1 hj
      have:=hcell j (by omega)
      rw [Go.Deep.add_add] at this
      rw [this,hj])
    have hfl:((List.range len).map F).length=len:=by simp
    refine ⟨(List.range len).map F,⟨some a,cap,by rw [hfl],by rw [hfl];exact hl,?_⟩,⟨?_,?_⟩,fun y hy=>?_⟩
    · refine ⟨rfl,by rw [hfl];exact Nat.le_trans hl hm,fun _=>⟨a,rfl,fun j p hj=>?_⟩⟩
      obtain ⟨hj1,hp⟩:=List.getElem?_eq_some_iff.1 hj
      rw [hfl] at hj1
      obtain ⟨c,q1,q2,q3,_⟩:=hF j hj1
      simp at hp
      subst hp
      exact ⟨c,q1,q2,q3⟩
    · rw [hfl,← hB]
      have:len*P.bytesOf e≤(len+(m-len))*P.bytesOf e:=Nat.mul_le_mul_right _ (by omega)
      unfold reachBytes at hlen
      omega
    · rw [hfl];exact Nat.le_trans hl hm
    · obtain ⟨i,hi,rfl⟩:=List.mem_map.1 hy
      exact (hF i (List.mem_range.1 hi)).choose_spec.2.2.2
theorem opens_struct2 {α β : Type} {P : Program} {d0 : Kd α} {d1 : Kd β} {t : TypeId} {f0 f1 : Field} {g0 : α → Prop} {g1 : β → Prop} (hu : P.underlying t = some (.struct #[f0, f1])) (o0 : f0.offset = 0) (o1 : f1.offset = P.cellsOf f0.type)
    (hc:P.cellsOf t=P.cellsOf f0.type+P.cellsOf f1.type) (h0:Opens P d0 f0.type g0) (h1:Opens P d1 f1.type g1):Opens P (Kd.pair d0 d1) t (fun x=>g0 x.1∧g1 x.2):=by
  intro H enc w spare held fuel cs x h hw
  obtain ⟨xs,n,rfl,rfl,hcl,hxl,hf⟩:=DataW.trod_struct hu h
  match xs,hxl,hw with
  | [y0,y1],_,hw =>
    have q0:=hf 0 f0 rfl
    have q1:=hf 1 f1 rfl
    simp only [DataW.weights,hu,List.map_cons,List.map_nil] at hw
    simp [o0] at q0
    simp [o1] at q1
    obtain ⟨a,ha,ga⟩:=h0 q0 (fun n hn=>hw n (by simp [DataW.weightsEach,hn]))
    obtain ⟨b,hb,gb⟩:=h1 q1 (fun n hn=>hw n (by simp [DataW.weightsEach,hn]))
    refine ⟨(a,b),⟨_,_,?_,ha,hb⟩,ga,gb⟩
    have hl:(cs.drop (P.cellsOf f0.type)).length=P.cellsOf f1.type:=by rw [List.length_drop,hcl,hc];omega
    rw [List.take_of_length_le (Nat.le_of_eq hl),List.take_append_drop]
theorem opens_struct3 {α β γ : Type} {P : Program} {d0 : Kd α} {d1 : Kd β} {d2 : Kd γ} {t : TypeId} {f0 f1 f2 : Field} {g0 : α → Prop} {g1 : β → Prop} {g2 : γ → Prop} (hu : P.underlying t = some (.struct #[f0, f1, f2])) (o0 : f0.offset = 0) (o1 : f1.offset = P.cellsOf f0.type) (o2 : f2.offset = P.cellsOf f0.type + P.cellsOf f1.type)
    (hc:P.cellsOf t=P.cellsOf f0.type+P.cellsOf f1.type+P.cellsOf f2.type) (h0:Opens P d0 f0.type g0) (h1:Opens P d1 f1.type g1) (h2:Opens P d2 f2.type g2):Opens P (Kd.pair d0 (Kd.pair d1 d2)) t (fun x=>g0 x.1∧g1 x.2.1∧g2 x.2.2):=by
  intro H enc w spare held fuel cs x h hw
  obtain ⟨xs,n,rfl,rfl,hcl,hxl,hf⟩:=DataW.trod_struct hu h
  match xs,hxl,hw with
  | [y0,y1,y2],_,hw =>
    have q0:=hf 0 f0 rfl
    have q1:=hf 1 f1 rfl
    have q2:=hf 2 f2 rfl
    simp only [DataW.weights,hu,List.map_cons,List.map_nil] at hw
    simp [o0] at q0
    simp [o1] at q1
    simp [o2] at q2
    obtain ⟨a,ha,ga⟩:=h0 q0 (fun n hn=>hw n (by simp [DataW.weightsEach,hn]))
    obtain ⟨b,hb,gb⟩:=h1 q1 (fun n hn=>hw n (by simp [DataW.weightsEach,hn]))
    obtain ⟨c,hc',gc⟩:=h2 q2 (fun n hn=>hw n (by simp [DataW.weightsEach,hn]))
    have hl:(cs.drop (P.cellsOf f0.type+P.cellsOf f1.type)).length=P.cellsOf f2.type:=by rw [List.length_drop,hcl,hc];omega
    rw [List.take_of_length_le (Nat.le_of_eq hl)] at hc'
    have e2:cs.drop (P.cellsOf f0.type)=(cs.drop (P.cellsOf f0.type)).take (P.cellsOf f1.type)++cs.drop (P.cellsOf f0.type+P.cellsOf f1.type):=by
      rw [← List.drop_drop,List.take_append_drop]
    exact ⟨(a,b,c),⟨cs.take (P.cellsOf f0.type),cs.drop (P.cellsOf f0.type),(List.take_append_drop _ _).symm,ha,⟨_,_,e2,hb,hc'⟩⟩,ga,gb,gc⟩
theorem opens_struct4 {α β γ δ : Type} {P : Program} {d0 : Kd α} {d1 : Kd β} {d2 : Kd γ} {d3 : Kd δ} {t : TypeId} {f0 f1 f2 f3 : Field} {g0 : α → Prop} {g1 : β → Prop} {g2 : γ → Prop} {g3 : δ → Prop} (hu : P.underlying t = some (.struct #[f0, f1, f2, f3])) (o0 : f0.offset = 0) (o1 : f1.offset = P.cellsOf f0.type) (o2 : f2.offset = P.cellsOf f0.type + P.cellsOf f1.type) (o3 : f3.offset = P.cellsOf f0.type + P.cellsOf f1.type + P.cellsOf f2.type)
    (hc:P.cellsOf t=P.cellsOf f0.type+P.cellsOf f1.type+P.cellsOf f2.type+P.cellsOf f3.type) (h0:Opens P d0 f0.type g0) (h1:Opens P d1 f1.type g1) (h2:Opens P d2 f2.type g2) (h3:Opens P d3 f3.type g3):Opens P (Kd.pair d0 (Kd.pair d1 (Kd.pair d2 d3))) t (fun x=>g0 x.1∧g1 x.2.1∧g2 x.2.2.1∧g3 x.2.2.2):=by
  intro H enc w spare held fuel cs x h hw
  obtain ⟨xs,n,rfl,rfl,hcl,hxl,hf⟩:=DataW.trod_struct hu h
  match xs,hxl,hw with
  | [y0,y1,y2,y3],_,hw =>
    have q0:=hf 0 f0 rfl
    have q1:=hf 1 f1 rfl
    have q2:=hf 2 f2 rfl
    have q3:=hf 3 f3 rfl
    simp only [DataW.weights,hu,List.map_cons,List.map_nil] at hw
    simp [o0] at q0
    simp [o1] at q1
    simp [o2] at q2
    simp [o3] at q3
    obtain ⟨a,ha,ga⟩:=h0 q0 (fun n hn=>hw n (by simp [DataW.weightsEach,hn]))
    obtain ⟨b,hb,gb⟩:=h1 q1 (fun n hn=>hw n (by simp [DataW.weightsEach,hn]))
    obtain ⟨c,hc',gc⟩:=h2 q2 (fun n hn=>hw n (by simp [DataW.weightsEach,hn]))
    obtain ⟨e,he,ge⟩:=h3 q3 (fun n hn=>hw n (by simp [DataW.weightsEach,hn]))
    have hl:(cs.drop (P.cellsOf f0.type+P.cellsOf f1.type+P.cellsOf f2.type)).length=P.cellsOf f3.type:=by rw [List.length_drop,hcl,hc];omega
    rw [List.take_of_length_le (Nat.le_of_eq hl)] at he
    have e2:cs.drop (P.cellsOf f0.type)=(cs.drop (P.cellsOf f0.type)).take (P.cellsOf f1.type)++cs.drop (P.cellsOf f0.type+P.cellsOf f1.type):=by
      rw [← List.drop_drop,List.take_append_drop]
    have e3:cs.drop (P.cellsOf f0.type+P.cellsOf f1.type)=(cs.drop (P.cellsOf f0.type+P.cellsOf f1.type)).take (P.cellsOf f2.type)++cs.drop (P.cellsOf f0.type+P.cellsOf f1.type+P.cellsOf f2.type):=by
      rw [← List.drop_drop (i:=P.cellsOf f2.type) (j:=P.cellsOf f0.type+P.cellsOf f1.type),List.take_append_drop]
    exact ⟨(a,b,c,e),⟨cs.take (P.cellsOf f0.type),cs.drop (P.cellsOf f0.type),(List.take_append_drop _ _).symm,ha,⟨_,_,e2,hb,⟨_,_,e3,hc',he⟩⟩⟩,ga,gb,gc,ge⟩
theorem opens_struct5 {α β γ δ ε : Type} {P : Program} {d0 : Kd α} {d1 : Kd β} {d2 : Kd γ} {d3 : Kd δ} {d4 : Kd ε} {t : TypeId} {f0 f1 f2 f3 f4 : Field} {g0 : α → Prop} {g1 : β → Prop} {g2 : γ → Prop} {g3 : δ → Prop} {g4 : ε → Prop} (hu : P.underlying t = some (.struct #[f0, f1, f2, f3, f4])) (o0 : f0.offset = 0) (o1 : f1.offset = P.cellsOf f0.type) (o2 : f2.offset = P.cellsOf f0.type + P.cellsOf f1.type) (o3 : f3.offset = P.cellsOf f0.type + P.cellsOf f1.type + P.cellsOf f2.type) (o4 : f4.offset = P.cellsOf f0.type + P.cellsOf f1.type + P.cellsOf f2.type + P.cellsOf f3.type)
    (hc:P.cellsOf t=P.cellsOf f0.type+P.cellsOf f1.type+P.cellsOf f2.type+P.cellsOf f3.type+P.cellsOf f4.type) (h0:Opens P d0 f0.type g0) (h1:Opens P d1 f1.type g1) (h2:Opens P d2 f2.type g2) (h3:Opens P d3 f3.type g3) (h4:Opens P d4 f4.type g4):Opens P (Kd.pair d0 (Kd.pair d1 (Kd.pair d2 (Kd.pair d3 d4)))) t (fun x=>g0 x.1∧g1 x.2.1∧g2 x.2.2.1∧g3 x.2.2.2.1∧g4 x.2.2.2.2):=by
  intro H enc w spare held fuel cs x h hw
  obtain ⟨xs,n,rfl,rfl,hcl,hxl,hf⟩:=DataW.trod_struct hu h
  match xs,hxl,hw with
  | [y0,y1,y2,y3,y4],_,hw =>
    have q0:=hf 0 f0 rfl
    have q1:=hf 1 f1 rfl
    have q2:=hf 2 f2 rfl
    have q3:=hf 3 f3 rfl
    have q4:=hf 4 f4 rfl
    simp only [DataW.weights,hu,List.map_cons,List.map_nil] at hw
    simp [o0] at q0
    simp [o1] at q1
    simp [o2] at q2
    simp [o3] at q3
    simp [o4] at q4
    obtain ⟨a,ha,ga⟩:=h0 q0 (fun n hn=>hw n (by simp [DataW.weightsEach,hn]))
    obtain ⟨b,hb,gb⟩:=h1 q1 (fun n hn=>hw n (by simp [DataW.weightsEach,hn]))
    obtain ⟨c,hc',gc⟩:=h2 q2 (fun n hn=>hw n (by simp [DataW.weightsEach,hn]))
    obtain ⟨e,he,ge⟩:=h3 q3 (fun n hn=>hw n (by simp [DataW.weightsEach,hn]))
    obtain ⟨z,hz,gz⟩:=h4 q4 (fun n hn=>hw n (by simp [DataW.weightsEach,hn]))
    have hl:(cs.drop (P.cellsOf f0.type+P.cellsOf f1.type+P.cellsOf f2.type+P.cellsOf f3.type)).length=P.cellsOf f4.type:=by rw [List.length_drop,hcl,hc];omega
    rw [List.take_of_length_le (Nat.le_of_eq hl)] at hz
    have e2:cs.drop (P.cellsOf f0.type)=(cs.drop (P.cellsOf f0.type)).take (P.cellsOf f1.type)++cs.drop (P.cellsOf f0.type+P.cellsOf f1.type):=by
      rw [← List.drop_drop,List.take_append_drop]
    have e3:cs.drop (P.cellsOf f0.type+P.cellsOf f1.type)=(cs.drop (P.cellsOf f0.type+P.cellsOf f1.type)).take (P.cellsOf f2.type)++cs.drop (P.cellsOf f0.type+P.cellsOf f1.type+P.cellsOf f2.type):=by
      rw [← List.drop_drop (i:=P.cellsOf f2.type) (j:=P.cellsOf f0.type+P.cellsOf f1.type),List.take_append_drop]
    have e4:cs.drop (P.cellsOf f0.type+P.cellsOf f1.type+P.cellsOf f2.type)=(cs.drop (P.cellsOf f0.type+P.cellsOf f1.type+P.cellsOf f2.type)).take (P.cellsOf f3.type)++cs.drop (P.cellsOf f0.type+P.cellsOf f1.type+P.cellsOf f2.type+P.cellsOf f3.type):=by
      rw [← List.drop_drop (i:=P.cellsOf f3.type) (j:=P.cellsOf f0.type+P.cellsOf f1.type+P.cellsOf f2.type),List.take_append_drop]
    exact ⟨(a,b,c,e,z),⟨cs.take (P.cellsOf f0.type),cs.drop (P.cellsOf f0.type),(List.take_append_drop _ _).symm,ha,⟨_,_,e2,hb,⟨_,_,e3,hc',⟨_,_,e4,he,hz⟩⟩⟩⟩,ga,gb,gc,ge,gz⟩
theorem opens_arr2 {α:Type} {P:Program} {d:Kd α} {t e:TypeId} {g:α→Prop} (hu:P.underlying t=some (.array 2 e)) (hc:P.cellsOf t=P.cellsOf e+P.cellsOf e) (h0:Opens P d e g):Opens P (Kd.pair d d) t (fun x=>g x.1∧g x.2):=by
  intro H enc w spare held fuel cs x h hw
  obtain ⟨xs,n,rfl,rfl,hcl,hxl,hf⟩:=DataW.trod_array hu h
  match xs,hxl,hw with
  | [y0,y1],_,hw =>
    have q0:=hf 0 (by omega)
    have q1:=hf 1 (by omega)
    simp only [DataW.weights,hu,List.map_cons,List.map_nil] at hw
    simp at q0
    simp at q1
    obtain ⟨a,ha,ga⟩:=h0 q0 (fun n hn=>hw n (by simp [DataW.weightsAll,hn]))
    obtain ⟨b,hb,gb⟩:=h0 q1 (fun n hn=>hw n (by simp [DataW.weightsAll,hn]))
    refine ⟨(a,b),⟨_,_,?_,ha,hb⟩,ga,gb⟩
    have hl:(cs.drop (P.cellsOf e)).length=P.cellsOf e:=by rw [List.length_drop,hcl,hc];omega
    rw [List.take_of_length_le (Nat.le_of_eq hl),List.take_append_drop]
theorem opens_arr3 {α:Type} {P:Program} {d:Kd α} {t e:TypeId} {g:α→Prop} (hu:P.underlying t=some (.array 3 e)) (hc:P.cellsOf t=P.cellsOf e+P.cellsOf e+P.cellsOf e) (h0:Opens P d e g):Opens P (Kd.pair d (Kd.pair d d)) t (fun x=>g x.1∧g x.2.1∧g x.2.2):=by
  intro H enc w spare held fuel cs x h hw
  obtain ⟨xs,n,rfl,rfl,hcl,hxl,hf⟩:=DataW.trod_array hu h
  match xs,hxl,hw with
  | [y0,y1,y2],_,hw =>
    have q0:=hf 0 (by omega)
    have q1:=hf 1 (by omega)
    have q2:=hf 2 (by omega)
    simp only [DataW.weights,hu,List.map_cons,List.map_nil] at hw
    simp at q0
    simp at q1
    simp at q2
    obtain ⟨a,ha,ga⟩:=h0 q0 (fun n hn=>hw n (by simp [DataW.weightsAll,hn]))
    obtain ⟨b,hb,gb⟩:=h0 q1 (fun n hn=>hw n (by simp [DataW.weightsAll,hn]))
    obtain ⟨c,hc',gc⟩:=h0 q2 (fun n hn=>hw n (by simp [DataW.weightsAll,hn]))
    have hl:(cs.drop (2*P.cellsOf e)).length=P.cellsOf e:=by rw [List.length_drop,hcl,hc];omega
    rw [List.take_of_length_le (Nat.le_of_eq hl)] at hc'
    have e2:cs.drop (P.cellsOf e)=(cs.drop (P.cellsOf e)).take (P.cellsOf e)++cs.drop (2*P.cellsOf e):=by
      rw [show cs.drop (2*P.cellsOf e)=(cs.drop (P.cellsOf e)).drop (P.cellsOf e) by rw [List.drop_drop];congr 1;omega,List.take_append_drop]
    exact ⟨(a,b,c),⟨cs.take (P.cellsOf e),cs.drop (P.cellsOf e),(List.take_append_drop _ _).symm,ha,⟨_,_,e2,hb,hc'⟩⟩,ga,gb,gc⟩
theorem opens_iso {α β:Type} {P:Program} {d:Kd α} {t:TypeId} {g:α→Prop} (f:β→α) (inv:α→β) (hi : ∀ y,f (inv y)=y) (h:Opens P d t g):Opens P (Kd.iso d f) t (fun x=>g (f x)):=by
  intro H enc w spare held fuel cs x hx hw
  obtain ⟨a,ha,ga⟩:=h hx hw
  exact ⟨inv a,by show d.K w (f (inv a)) cs;rw [hi];exact ha,by show g (f (inv a));rw [hi];exact ga⟩
theorem opens_mono {α:Type} {P:Program} {d:Kd α} {t:TypeId} {g g':α→Prop} (h:Opens P d t g) (hg : ∀ x,g x→g' x):Opens P d t g':=by
  intro H enc w spare held fuel cs x hx hw
  obtain ⟨a,ha,ga⟩:=h hx hw
  exact ⟨a,ha,hg a ga⟩
theorem open_arg {α H : Type} {enc : TypeId × Value → H} {P : Program} {d : Kd α} {t : TypeId} {good : α → Prop} (ho : Opens P d t good) {w : World} {v : Value} {D : DataW H} {ps : List MemPlace} {ts : List TypeId} {ds : List (DataW H)} {j : Nat}
    (hsz:(DataW.weightsEach P ts ds).all (·≤reachBytes)=true) (ht:ts[j]?=some t) (hd:ds[j]?=some D) {spare:Nat→Bool} {held:Bool} (h:DataW.Trod enc P w 0 spare held t v D ps) : ∃ a:α,d.K w a v.cells.toList∧good a:=by
  obtain ⟨fuel,hf⟩:=h
  refine ho hf (fun n hn=>?_)
  have:=List.all_eq_true.1 hsz n (weights_each ts ds j t D ht hd n hn)
  simpa using this
theorem agg_of_cells {v:Value} {cs:List Value} (h:v.cells.toList=cs) (h2:2≤cs.length):v = .agg cs.toArray:=by
  cases v <;> simp [Value.cells] at h <;> first|(subst h;simp at h2;done)|(subst h;simp)
end Go.Proofs.YtoemkemmiikhlaaGreatW.Row
